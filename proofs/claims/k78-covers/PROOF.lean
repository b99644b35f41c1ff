import PyProof.Rows.All
import Wide.All
import OpenK.AllK
import Wide.FinOn
import KE.KLam
import HandS.Lambda
import HandS.ForMost
import HandS.More
import HandS.Defaults
import HandS.MakeKw
import HandS.EndTab
import PyProof.ReprRoads
import PyProof.EnumMake
import PyProof.Draws
import HandS.Iter
import HandS.Zip0
import HandS.Codes
import HandS.IsInst
import HandS.Comp
import HandS.ExcInit
import HandS.TupLe
import HandS.Zip
import HandS.TupMul
import HandS.WideBits
import HandS.NoneIn
import HandS.Conv
import HandS.Nested
import HandS.TryMany
import HandS.Exc
import HandS.ExcField
import HandS.TupAny
import HandS.SortInts
import HandS.SetFor
import HandS.Strs
import HandS.Dict
import KE.KNestM
import HandS.HeadHook1
import HandS.HeadHook2
import HandS.HeadHook3
import HandS.HeadHook4
import PySem.Challenge.RW_webrooms_k78_covers_by_turns
import Lean
import KE.KStateDown
import HandS.Ends
import HandS.Head0
import HandS.Head1
import HandS.Head2
import HandS.HeadEnd
set_option Elab.async false
set_option linter.all false
set_option maxRecDepth 100000
set_option maxHeartbeats 4000000
/-! functions as data -/
namespace Clo
open PySem PySem.Spec PyProof.Rows L2
/-- a lambda without parameters: its words, its cells -/
structure CloD where
  qual : Str
  params : Arguments
  body : Expr
  scope : Scope
  cl : List (Str × Addr)
/-- the object at f is that function, its code object at c' -/
def LamO (f c' : Addr) (d : CloD) : HO := .ext fun h => ∃ (pm ctv : Value), h.get? f = some (PySem.W.kla_obj "<lambda>" d.qual d.params d.body d.scope d.cl pm c' ctv)
/-- f is that function -/
def LamAt (H : Hp) (f : Addr) (d : CloD) : Prop := ∃ c', H f = some (LamO f c' d) ∧ H c' = some (LamX.CodeO c' d.qual)
theorem LamAt.mono {H H' : Hp} {f : Addr} {d : CloD} (e : ∀ b o, H b = some o → H' b = some o) (h : LamAt H f d) : LamAt H' f d := by
  obtain ⟨c', a, b⟩ := h
  exact ⟨c', e _ _ a, e _ _ b⟩
/-- at c: just this object -/
def PinO (c : Addr) (o : Obj) : HO := .ext fun h => h.get? c = some o
/-- the names that a lambda takes from where it was made -/
def frees (d : CloD) : List Str := d.scope.names.filterMap fun y => if y.2 = .free then some y.1 else none
/-- all cells of a lambda are pinned, and have these values -/
structure SC (H : Hp) (d : CloD) (vs : List V) : Prop where
  len : vs.length = (frees d).length
  pin : ∀ p ∈ d.cl, ∃ o w, H p.2 = some (PinO p.2 o) ∧ o.data = .cell w
  val : ∀ (i : Nat) (y : Str) (v : V), (frees d)[i]? = some y → vs[i]? = some v → ∃ c o u, d.cl.lookup y = some c ∧ H c = some (PinO c o) ∧ o.data = .cell (some u) ∧ RelV v u
theorem SC.mono {H H' : Hp} {d : CloD} {vs : List V} (e : ∀ b o, H b = some o → H' b = some o) (h : SC H d vs) : SC H' d vs :=
  ⟨h.len, fun p hp => let ⟨o, w, a, b⟩ := h.pin p hp; ⟨o, w, e _ _ a, b⟩, fun i y v h1 h2 => let ⟨c, o, u, a1, a2, a3, a4⟩ := h.val i y v h1 h2; ⟨c, o, u, a1, e _ _ a2, a3, a4⟩⟩
end Clo
namespace Gd
open PySem PySem.Spec PyProof.Rows L2
/-! a def's promise where no repr is under way -/
/-- as FnOk, told of a caller with no guard -/
structure FnG (P : Program) (w : World) (K : PySem.W.Frag) (mg : Str → Option Value) (base : Heap) (CX : CXT) (k : Nat) (f : Addr) (fd : FuncData) (ps : List Str) (sp : Sp) : Prop where
  len : ∀ vs H Q E, sp vs H Q E → vs.length = ps.length
  run : ∀ (A : Around) (outer : List Env) (s : Shared) (H : Hp) (args : Args) (us : List Value) (vs : List V) (Q : VK) (E : XK), Room k A → A.guards = some [] → Env0 P w K mg base A outer s H → BindsTo s fd args (ps.zip us) → Vals vs us → sp vs H Q E →
    codeAny (model P w) A (.call (.ref f) args) (CR CX outer P w H s Q E) s
section
variable {P : Program} {w : World} {K : PySem.W.Frag} {mg : Str → Option Value} {base : Heap} {CX : CXT} {k j : Nat} {f : Addr} {fd : FuncData} {ps N : List Str} {sp sp' : Sp} {x qual : Str} {params : Arguments} {body : List Stmt} {scope : Scope} {dvs : List V} {kws : List (Str × V)}
theorem FnG.of (F : FnOk P w K mg base CX k f fd ps sp) : FnG P w K mg base CX k f fd ps sp := ⟨F.len, fun A o s H a us vs Q E hr _ => F.run A o s H a us vs Q E hr⟩
theorem FnG.mono (F : FnG P w K mg base CX j f fd ps sp) (h : j ≤ k) : FnG P w K mg base CX k f fd ps sp := ⟨F.len, fun A o s H a us vs Q E hr => F.run A o s H a us vs Q E (hr.mono h)⟩
theorem FnG.imp (F : FnG P w K mg base CX k f fd ps sp) (h : ∀ vs H Q E, sp' vs H Q E → sp vs H Q E) : FnG P w K mg base CX k f fd ps sp' :=
  ⟨fun vs H Q E q => F.len vs H Q E (h _ _ _ _ q), fun A o s H a us vs Q E hr hg he hb hv hs => F.run A o s H a us vs Q E hr hg he hb hv (h _ _ _ _ hs)⟩
/-- by the body -/
theorem fnG_of (F : FunD K x qual params body scope dvs kws f fd) (S : FnScope N ps scope) (len : ∀ vs H Q E, sp vs H Q E → vs.length = ps.length)
    (hbody : ∀ (cdv : Value) (A : Around) (outer : List Env) (s : Shared) (H : Hp) (vs : List V) (Q : VK) (E : XK), Room k (A.deeper (envOfC qual scope s.heap.objs.size f cdv)) → A.guards = some [] → sp vs H Q E →
      ∃ t, PSs (cxOf CX P w K mg base N qual scope f cdv A outer s H E) body t ∧ t { nx := fun _ H' => Q .non H', rt := Q } (start N vs) H) : FnG P w K mg base CX (k + 1) f fd ps sp := by
  obtain ⟨oc, od, dV, kV, doc, pm, an, cdv, ct, osl, rfl, lk, hcd, _, _⟩ := F.ex
  exact ⟨len, fun A outer s H args us vs Q E hr hg e0 hb hv hs => LamX.run_ofS lk hcd S hr e0 hb hv (len _ _ _ _ hs) fun hr' => hbody cdv A outer s H vs Q E hr' hg hs⟩
end
section
variable {X : Cx} {CX : CXT} {k n : Nat} {f C : Addr} {fd : FuncData} {ps ks : List Str} {sp : Sp} {dvs : List V} {ds : List Value} {E : XK} {x : Str} {p pos : Pos} {e : Expr} {es : List Expr} {t : TA}
theorem run_fnG {pins : List (Addr × Obj)} {σ : L2.St} {H : Hp} {s : Shared} {Q : VK} {us : List Value} {vs : List V} (F : FnG X.prog X.w X.K X.mg X.base CX k f fd ps sp) (hr : Room k X.A) (hG : X.A.guards = some []) (hb : Binds X.K fd ps ds) (hd : Vals dvs ds) (hx : Passes CX X E)
    (I : Inv X pins σ H s) (r : Vals vs us) (h : sp (vs ++ dvs) H Q E) : wpAny (model X.prog X.w) X.A (call (.ref f) us) (EP X pins σ Q) X.xe s := by
  have r2 : Vals (vs ++ dvs) (us ++ ds) := r.append hd
  have hl : (us ++ ds).length = ps.length := r2.length.symm.trans (F.len _ _ _ _ h)
  refine wpAny_call (codeAny_mono (F.run X.A X.stack s H ⟨us, []⟩ (us ++ ds) (vs ++ dvs) Q E hr hG I.env0 (hb s us I.kIn hl) r2 h) fun r s' hq => ?_)
  match r, hq with
  | .error e, hq => exact hx pins σ H s e s' I hq
  | .ok (.ret u), hq => exact I.after hq
theorem pe_callG (F : FnG X.prog X.w X.K X.mg X.base CX k f fd ps sp) (hr : Room k X.A) (hG : X.A.guards = some []) (hg : Gl X x) (hm : X.mg x = some (.ref f)) (hk : PySem.W.keepIn X.K (.ref f) = true) (hb : Binds X.K fd ps ds) (hd : Vals dvs ds) (hx : Passes CX X E)
    (ha : PA X (e :: es) t) (hdb : (x == ("__debug__" : Str)) = false := by decide) (he : starEach (e :: es) X.env = (false, eval e X.env) :: starEach es X.env := by rfl) (hpl : (backTo pos (starEach es X.env)).any (·.1) = false := by rfl) :
    PE X (.Call (.Name x p) (e :: es) [] pos) (tCall sp dvs E t) := by
  refine ⟨fun pins s σ H Q I h => wpAny_Call_Name_kw (ld_glob I hg hm ?_ hdb)⟩
  exact PySem.W.callWith_K (h₀ := X.base) I.ok.mod.kin hk (thn (ha.run pos pins s σ H _ I h) fun us s1 ⟨vs, H1, I1, r, q⟩ => ⟨I1.kIn, run_fnG F hr hG hb hd hx I1 r q⟩) he hpl
end
/-! the law's call -/
theorem law_callG {P : Program} {w : World} {K : PySem.W.Frag} {mg mb : Str → Option Value} {CX : CXT} {k : Nat} {fa a : Addr} {fd : FuncData} {x : Str} {sp : Sp} {s₁ : Shared} {vs : List Value} {ns : List Int}
    (KX : K.In s₁.heap) (hns : s₁.heap.Ns mainGlobals mg) (hb : s₁.heap.Ns builtinsNs mb) (hbb : ∀ x : Str, x ≠ "__name__" → mb x = bootBuiltins x) (hlim : s₁.heap.NoLimit) (hg : s₁.gens = #[])
    (ha : s₁.heap.get? a = some { cls := .type "list", data := .seq vs.toArray }) (hi : IntsAre vs ns) (hl : ns.length ≤ sizeLine) (hr : Room k callerA)
    (F : ∀ base : Heap, K.In base → base.Ns mainGlobals mg → FnG P w K mg base CX k fa fd [x] sp) (hbind : ∀ (s : Shared) (u : Value), BindsTo s fd ⟨[u], []⟩ [(x, u)])
    (hsp : ∀ H : Hp, Only H → SqL K H a (ns.map V.int) → sp [.ref a] H (fun v _ => v = .bl true) fun _ _ _ => False)
    (hCX : ∀ H e s', CX [] H s₁ (fun _ _ _ => False) e s' → False) :
    codeAny (model P w) callerA (.call (.ref fa) ⟨[.ref a], []⟩) (fun r s' => r = .ok (.ret (.bool true)) ∧ OldK s₁.heap s'.heap ∧ s'.os = s₁.os ∧ AllBare s'.gens) s₁ := by
  have rv := vals_ints hi
  have sz : (ns.map V.int).length ≤ sizeLine := by rw [List.length_map]; exact hl
  -- where the script stands
  obtain ⟨H, hO, hS, hok, hA, hK⟩ : ∃ H : Hp, Only H ∧ SqL K H a (ns.map V.int) ∧ HOk P w H s₁.heap ∧ (∀ b, H b ≠ none → b = a) ∧ (H a ≠ none → K.lookup a = none) := by
    cases hk : K.lookup a with
    | some o =>
      have e := KX a o hk
      rw [ha] at e
      cases e
      exact ⟨fun _ => none, fun _ => .inl rfl, (.inr ⟨_, vs.toArray, _, hk, rfl, rfl, rfl, by rw [List.size_toArray, hi.length]; exact hl, by simpa using rv⟩ : SqL K (fun _ => none) a (ns.map V.int)), (fun b u z => nomatch (show (none : Option HO) = some u from z)), fun b z => absurd rfl z, fun z => absurd rfl z⟩
    | none =>
      refine ⟨fun b => if b = a then some (.frz { cls := .type "list", data := .seq vs.toArray } (.lst (ns.map V.int))) else none, fun b => ?_, .inl (.inr ⟨_, if_pos rfl⟩), fun b u z => ?_, fun b z => ?_, fun _ => rfl⟩
      · by_cases hb : b = a
        · exact .inr ⟨_, _, if_pos hb⟩
        · exact .inl (if_neg hb)
      · by_cases hb : b = a
        · have z' := (if_pos hb).symm.trans z
          cases z'
          subst hb
          exact ⟨ha, sz, vs, _, rv, ha⟩
        · have z' := (if_neg hb).symm.trans z
          cases z'
      · by_cases hb : b = a
        · exact hb
        · exact absurd (if_neg hb) z
  have only : ∀ {b : Addr}, H b ≠ none → s₁.heap.get? b = some { cls := .type "list", data := .seq vs.toArray } ∧ K.lookup b = none := fun {b} q => by
    have e := hA b q
    subst e
    exact ⟨ha, hK q⟩
  have noD : ∀ {b : Addr} {o : Obj} {es : Array DictEntry} {ep : Nat}, s₁.heap.get? b = some o → o.data = .dict es ep → H b = none := fun {b o es ep} e d => by
    cases q : H b with
    | none => rfl
    | some u =>
      have e2 := (only (b := b) (by rw [q]; exact fun z => nomatch z)).1
      rw [e] at e2
      cases e2
      cases d
  have nsK : ∀ {b : Addr} {m : Str → Option Value}, s₁.heap.Ns b m → (hidT s₁.heap H).Ns b m := fun {b m} ⟨o, es, ep, e, d, r⟩ => ⟨o, es, ep, hidT_get e (noD e d), d, r⟩
  have hKb : K.In (hidT s₁.heap H) := fun b o e => hidT_get (KX b o e) (by
    cases q : H b with
    | none => rfl
    | some u =>
      have e2 := (only (b := b) (by rw [q]; exact fun z => nomatch z)).2
      rw [e] at e2
      cases e2)
  have hM : Mod K mg (hidT s₁.heap H) := ⟨hKb, nsK hns, ⟨mb, nsK hb, hbb⟩, let ⟨mc, h1, h2⟩ := hlim; ⟨mc, nsK h1, h2⟩⟩
  have nil : ∀ b : Addr, b ∉ frs ([] : List Env) := fun b z => absurd (show b ∈ ([] : List Addr) from z) (by simp)
  have e0 : Env0 P w K mg (hidT s₁.heap H) callerA [] s₁ H := ⟨rfl, hM, fun b o e => of_hidT e, Nat.le_of_eq (hidT_size _ _), trivial, fun b hb => absurd hb (nil b), hok, .of_eq hg⟩
  refine codeAny_mono ((F _ hKb (nsK hns)).run callerA [] s₁ H ⟨[.ref a], []⟩ [.ref a] [.ref a] _ _ hr rfl e0 (hbind s₁ (.ref a)) (.cons rfl .nil) (hsp H hO hS)) fun r s' h => ?_
  match r, h with
  | .error e, h => exact (hCX H e s' h).elim
  | .ok (.ret u), ⟨v, H', os, bare, un, hok', r', q⟩ =>
    have q' : v = .bl true := q
    subst q'
    obtain rfl : u = Value.bool true := r'
    refine ⟨rfl, OldK.of_keep fun b o e => ?_, os, bare⟩
    cases q : H b with
    | none => exact un.keep b o e q (nil b) (by simp)
    | some u =>
      rcases hO b with z | ⟨ob, xs, z⟩
      · rw [q] at z; cases z
      · obtain ⟨e1, _⟩ := hok b _ z
        obtain ⟨e2, _⟩ := hok' b _ (un.frzs b ob _ z)
        rw [e] at e1; cases e1
        exact e2
/-- the end of a law's row: F gives the written part, the def's object, its promise -/
theorem walk_ofG {l : PySem.W.OpenLaw} {n k : Nat} {q : Program} {loose : List Str} {XP : (Str → Option Value) → Heap → Prop} {YP : World → Heap → Prop} {d : DefRec} {CX : CXT} {x : Str}
    (hn : l.most = some n) (hn2 : n ≤ sizeLine) (hdf : d.params.defaults = []) (hr : Room k callerA)
    (F : ∀ (w : World) (mg : Str → Option Value) (fa : Addr) (h : Heap), YP w h → h.Ns mainGlobals mg → mg d.name = some (.ref fa) →
      ∃ (K : PySem.W.Frag) (fd : FuncData) (sp : Sp), K.In h ∧ (∀ (s : Shared) (u : Value), BindsTo s fd ⟨[u], []⟩ [(x, u)]) ∧
        (∀ (H : Hp) (a : Addr) (ns : List Int), ns.length ≤ n → Only H → SqL K H a (ns.map V.int) → sp [.ref a] H (fun v _ => v = .bl true) fun _ _ _ => False) ∧
        ∀ base : Heap, K.In base → base.Ns mainGlobals mg → FnG l.prog w K mg base CX k fa fd [x] sp)
    (hCX : ∀ (H : Hp) (s : Shared) (e : Value) (s' : Shared), CX [] H s (fun _ _ _ => False) e s' → False) :
    PySem.W.WalkO q loose XP YP l.row.toRowW d [] (fun f vs => PySem.call f vs) := by
  refine Att.attach_call hn hdf fun w s₀ s₁ mg mb fa o pm cd doc a vs ns G Y ho hd hcd hmg hobj hints hlen hg => ?_
  obtain ⟨K, fd, sp, KX, hb, hsp, hF⟩ := F w mg fa _ Y G.T.g hmg
  exact law_callG KX G.T.g G.T.b G.T.builtins G.T.nolimit hg hobj hints (Nat.le_trans hlen hn2) hr hF hb (fun H hO hS => hsp H a ns hlen hO hS) fun H e s' => hCX H s₁ e s'
end Gd
/-! the law's call where the law's code objects have tables and no repr is under way -/
namespace Gd
open PySem PySem.Spec PyProof.Rows L2
/-- code objects and their tables, at a heap -/
structure TabsAt (hp : Heap) (K : PySem.W.Frag) (cs : List (Addr × Addr)) : Prop where
  raw : ∀ p ∈ cs, hp.get? p.2 = some { cls := .none, data := .fields #[] }
  free : ∀ p ∈ cs, K.lookup p.2 = none
  code : ∀ p ∈ cs, PySem.W.CodeHd hp p.1 p.2
def BltMod (hp : Heap) (mg : Str → Option Value) : Prop := ∃ (bm : Addr) (ob : Obj), mg "__builtins__" = some (.ref bm) ∧ bm ≠ builtinsNs ∧ hp.get? bm = some ob ∧ ob.cls = .type "module" ∧ ob.dict = some builtinsNs ∧ ob.data = .plain
/-- what of the law's call is wished -/
def LawEnd (st : Shared) : Result → Shared → Prop := fun r z => r = .ok (.ret (.bool true)) ∧ OldK st.heap z.heap ∧ z.os = st.os ∧ AllBare z.gens
/-- where the script stands, where the tables stand -/
theorem told {hp : Heap} {K : PySem.W.Frag} {cs : List (Addr × Addr)} {a : Addr} {us : List Value} {ns : List Int} {P : Program} {w : World} (inK : K.In hp) (tb : TabsAt hp K cs) (ata : hp.get? a = some { cls := .type "list", data := .seq us.toArray }) (iar : IntsAre us ns) (small : ns.length ≤ sizeLine) :
    ∃ H : Hp, (∀ b u, H b = some u → (b ∈ cs.map Prod.snd ∧ u = .tbl #[]) ∨ (b = a ∧ K.lookup a = none ∧ u = .frz { cls := .type "list", data := .seq us.toArray } (.lst (ns.map V.int)))) ∧ (∀ p ∈ cs, H p.2 = some (.tbl #[])) ∧ SqL K H a (ns.map V.int) ∧ HOk P w H hp := by
  have rv := vals_ints iar
  have sz : (ns.map V.int).length ≤ sizeLine := by rw [List.length_map]; exact small
  have na : a ∉ cs.map Prod.snd := fun z => by
    obtain ⟨p, hpm, e⟩ := List.mem_map.mp z
    have q := tb.raw p hpm
    rw [e, ata] at q
    exact nomatch (congrArg Obj.data (Option.some.inj q) : Data.seq us.toArray _ = Data.fields #[])
  have rawT : ∀ b, b ∈ cs.map Prod.snd → hp.get? b = some { cls := .none, data := .fields #[] } := fun b z => by
    obtain ⟨p, hpm, e⟩ := List.mem_map.mp z
    exact e ▸ tb.raw p hpm
  cases look : K.lookup a with
  | some o =>
    have eo := inK a o look
    rw [ata] at eo
    cases eo
    refine ⟨fun b => if b ∈ cs.map Prod.snd then some (.tbl #[]) else none, fun b u z => ?_, fun p hpm => if_pos (List.mem_map_of_mem hpm), .inr ⟨_, us.toArray, _, look, rfl, rfl, rfl, ?_, by simpa using rv⟩, fun b u z => ?_⟩
    · by_cases m : b ∈ cs.map Prod.snd
      · exact .inl ⟨m, (Option.some.inj ((if_pos m).symm.trans z)).symm⟩
      · exact nomatch (if_neg m).symm.trans z
    · rw [List.size_toArray, iar.length]; exact small
    · by_cases m : b ∈ cs.map Prod.snd
      · cases (if_pos m).symm.trans z
        exact rawT b m
      · exact nomatch (if_neg m).symm.trans z
  | none =>
    refine ⟨fun b => if b ∈ cs.map Prod.snd then some (.tbl #[]) else if b = a then some (.frz { cls := .type "list", data := .seq us.toArray } (.lst (ns.map V.int))) else none, fun b u z => ?_, fun p hpm => if_pos (List.mem_map_of_mem hpm), .inl (.inr ⟨{ cls := .type "list", data := .seq us.toArray }, (if_neg na).trans (if_pos rfl)⟩), fun b u z => ?_⟩
    · by_cases m : b ∈ cs.map Prod.snd
      · exact .inl ⟨m, (Option.some.inj ((if_pos m).symm.trans z)).symm⟩
      · have z := (if_neg m).symm.trans z
        by_cases e : b = a
        · exact .inr ⟨e, rfl, (Option.some.inj ((if_pos e).symm.trans z)).symm⟩
        · exact nomatch (if_neg e).symm.trans z
    · by_cases m : b ∈ cs.map Prod.snd
      · cases (if_pos m).symm.trans z
        exact rawT b m
      · have z := (if_neg m).symm.trans z
        by_cases e : b = a
        · cases (if_pos e).symm.trans z
          subst e
          exact ⟨ata, sz, us, _, rv, ata⟩
        · exact nomatch (if_neg e).symm.trans z
/-- the law's call -/
theorem law_callTG {P : Program} {w : World} {K : PySem.W.Frag} {mg mb : Str → Option Value} {CX : CXT} {k : Nat} {fa a : Addr} {cs : List (Addr × Addr)} {fd : FuncData} {x : Str} {sp : Sp} {st : Shared} {us : List Value} {ns : List Int}
    (inK : K.In st.heap) (gn : st.heap.Ns mainGlobals mg) (bn : st.heap.Ns builtinsNs mb) (bbn : ∀ x : Str, x ≠ "__name__" → mb x = bootBuiltins x) (nolim : st.heap.NoLimit) (nog : st.gens = #[]) (tb : TabsAt st.heap K cs) (bm : BltMod st.heap mg)
    (ata : st.heap.get? a = some { cls := .type "list", data := .seq us.toArray }) (iar : IntsAre us ns) (small : ns.length ≤ sizeLine) (hr : Room k callerA)
    (F : ∀ base : Heap, K.In base → base.Ns mainGlobals mg → (∀ p ∈ cs, LamX.TabB base mg p.1 p.2) → FnG P w K mg base CX k fa fd [x] sp) (bind : ∀ (s : Shared) (u : Value), BindsTo s fd ⟨[u], []⟩ [(x, u)])
    (wish : ∀ H : Hp, (∀ p ∈ cs, H p.2 = some (.tbl #[])) → SqL K H a (ns.map V.int) → sp [.ref a] H (fun v _ => v = .bl true) fun _ _ _ => False) (noex : ∀ H e z, CX [] H st (fun _ _ _ => False) e z → False) :
    codeAny (model P w) callerA (.call (.ref fa) ⟨[.ref a], []⟩) (LawEnd st) st := by
  obtain ⟨H, src, hT, hS, hok⟩ := told (P := P) (w := w) inK tb ata iar small
  -- nothing but lists and empty tables is told
  have out : ∀ {b : Addr} {o : Obj}, st.heap.get? b = some o → (∀ r n, o.data ≠ .seq r n) → o.data ≠ .fields #[] → H b = none := fun {b o} e n1 n2 => by
    cases q : H b with
    | none => rfl
    | some u =>
      rcases src b u q with ⟨m, _⟩ | ⟨rfl, _⟩
      · obtain ⟨p, hpm, rfl⟩ := List.mem_map.mp m
        rw [tb.raw p hpm] at e
        cases e
        exact absurd rfl n2
      · rw [ata] at e
        cases e
        exact absurd rfl (n1 _ _)
  have keepNs : ∀ {b : Addr} {m : Str → Option Value}, st.heap.Ns b m → (hidT st.heap H).Ns b m := fun ⟨o, es, ep, e, d, r⟩ => ⟨o, es, ep, hidT_get e (out e (fun _ _ z => by rw [d] at z; cases z) fun z => by rw [d] at z; cases z), d, r⟩
  have baseK : K.In (hidT st.heap H) := fun b o e => hidT_get (inK b o e) (by
    cases q : H b with
    | none => rfl
    | some u =>
      rcases src b u q with ⟨m, _⟩ | ⟨rfl, n, _⟩
      · obtain ⟨p, hpm, rfl⟩ := List.mem_map.mp m
        rw [tb.free p hpm] at e
        cases e
      · rw [n] at e
        cases e)
  have modOk : L2.Mod K mg (hidT st.heap H) := ⟨baseK, keepNs gn, ⟨mb, keepNs bn, bbn⟩, let ⟨mc, h1, h2⟩ := nolim; ⟨mc, keepNs h1, h2⟩⟩
  have tabB : ∀ p ∈ cs, LamX.TabB (hidT st.heap H) mg p.1 p.2 := fun p hpm => by
    have raw := tb.raw p hpm
    refine ⟨?_, ?_, fun z => ?_⟩
    · obtain ⟨o, vs, file, tf, flags, tg, inF, text, tt, e1, r1, r2, r3, rest⟩ := tb.code p hpm
      exact ⟨o, vs, file, tf, flags, tg, inF, text, tt, hidT_get e1 (out e1 (fun _ _ z => by rw [r2] at z; cases z) fun z => by rw [r2] at z; cases z; simp at r3), r1, r2, r3, rest⟩
    · obtain ⟨m, ob, b1, b2, b3, b4, b5, b6⟩ := bm
      refine ⟨m, ob, b1, b2, fun q => ?_, fun q => ?_, hidT_get b3 (out b3 (fun _ _ z => by rw [b6] at z; cases z) fun z => by rw [b6] at z; cases z), b4, b5, b6⟩
      · obtain ⟨o, es, ep, e, d, _⟩ := gn
        rw [q, e] at b3
        cases b3
        rw [d] at b6
        cases b6
      · rw [q, raw] at b3
        cases b3
        cases b6
    · obtain ⟨o, es, ep, e, d, _⟩ := gn
      rw [z, raw] at e
      cases e
      cases d
  have noFr : ∀ b : Addr, b ∉ frs ([] : List Env) := fun b z => absurd (show b ∈ ([] : List Addr) from z) (by simp)
  have e0 : Env0 P w K mg (hidT st.heap H) callerA [] st H := ⟨rfl, modOk, fun b o e => of_hidT e, Nat.le_of_eq (hidT_size _ _), trivial, fun b z => absurd z (noFr b), hok, .of_eq nog⟩
  refine codeAny_mono ((F _ baseK (keepNs gn) tabB).run callerA [] st H ⟨[.ref a], []⟩ [.ref a] [.ref a] _ _ hr rfl e0 (bind st (.ref a)) (.cons rfl .nil) (wish H hT hS)) fun r z h => ?_
  match r, h with
  | .error e, h => exact (noex H e z h).elim
  | .ok (.ret u), ⟨v, H', os, bare, un, hok', r', q⟩ =>
    obtain rfl : v = .bl true := q
    obtain rfl : u = Value.bool true := r'
    have stay : ∀ b o, b ∉ cs.map Prod.snd → st.heap.get? b = some o → z.heap.get? b = some o := fun b o nb e => by
      cases q : H b with
      | none => exact un.keep b o e q (noFr b) (by simp)
      | some u =>
        rcases src b u q with ⟨m, _⟩ | ⟨rfl, _, rfl⟩
        · exact absurd m nb
        · obtain ⟨e1, _⟩ := hok b _ q
          rw [e] at e1
          cases e1
          exact (hok' b _ (un.frzs b _ _ q)).1
    have more : ∀ p ∈ cs, ∃ vs : Array Value, z.heap.get? p.2 = some { cls := .none, data := .fields vs } := fun p hpm => by
      obtain ⟨vs, e⟩ := un.tbls p.2 #[] (hT p hpm)
      exact ⟨_, hok' p.2 _ e⟩
    refine ⟨rfl, ⟨fun b o e => ?_, fun b o e => ?_⟩, os, bare⟩
    · by_cases m : b ∈ cs.map Prod.snd
      · obtain ⟨p, hpm, rfl⟩ := List.mem_map.mp m
        obtain ⟨vs, hv⟩ := more p hpm
        rw [tb.raw p hpm] at e
        cases e
        exact .inr (.inl ⟨((tb.code p hpm).tab (tb.raw p hpm)).isCodeTable, rfl, #[], vs, rfl, by rw [Array.empty_append]; exact hv⟩)
      · exact .inl (stay b o m e)
    · by_cases m : b ∈ cs.map Prod.snd
      · obtain ⟨p, hpm, rfl⟩ := List.mem_map.mp m
        obtain ⟨vs, hv⟩ := more p hpm
        exact ⟨_, hv⟩
      · exact ⟨o, stay b o m e⟩
/-- the row's end -/
theorem walk_ofTG {l : PySem.W.OpenLaw} {n k : Nat} {q : Program} {loose : List Str} {XP : (Str → Option Value) → Heap → Prop} {YP : World → Heap → Prop} {d : DefRec} {CX : World → CXT} {x : Str}
    (hn : l.most = some n) (hn2 : n ≤ sizeLine) (nodef : d.params.defaults = []) (hr : Room k callerA)
    (F : ∀ (w : World) (mg : Str → Option Value) (fa : Addr) (hp : Heap), YP w hp → hp.Ns mainGlobals mg → mg d.name = some (.ref fa) →
      ∃ (K : PySem.W.Frag) (fd : FuncData) (cs : List (Addr × Addr)) (sp : Sp), K.In hp ∧ TabsAt hp K cs ∧ (∀ (s : Shared) (u : Value), BindsTo s fd ⟨[u], []⟩ [(x, u)]) ∧
        (∀ (H : Hp) (a : Addr) (ns : List Int), ns.length ≤ n → (∀ p ∈ cs, H p.2 = some (.tbl #[])) → SqL K H a (ns.map V.int) → sp [.ref a] H (fun v _ => v = .bl true) fun _ _ _ => False) ∧
        ∀ base : Heap, K.In base → base.Ns mainGlobals mg → (∀ p ∈ cs, LamX.TabB base mg p.1 p.2) → FnG l.prog w K mg base (CX w) k fa fd [x] sp)
    (noex : ∀ (w : World) (H : Hp) (s : Shared) (e : Value) (z : Shared), CX w [] H s (fun _ _ _ => False) e z → False) : PySem.W.WalkO q loose XP YP l.row.toRowW d [] (fun f vs => PySem.call f vs) := by
  refine Att.attach_call hn nodef fun w s₀ st mg mb fa o pm cd doc a us ns G Y ho hd hcd hmg ata iar hlen nog => ?_
  obtain ⟨K, fd, cs, sp, inK, tb, bind, wish, run⟩ := F w mg fa _ Y G.T.g hmg
  exact law_callTG inK G.T.g G.T.b G.T.builtins G.T.nolimit nog tb G.T.bmain ata iar (Nat.le_trans hlen hn2) hr run bind (fun H hT hS => wish H a ns hlen hT hS) fun H e z => noex w H st e z
end Gd
/-! enumerate of a tuple -/
namespace PySem
open Sem (wp)
open AutoSeq1 (wpAny_loadPart')
theorem ent_meets (l : Addr) (items : Array Value) (n : Nat) (dct : Option Addr) (sl : Array (Option Value)) :
    Meets (Builtin.«enumerate.__new__» ⟨[.type "enumerate", .ref l], []⟩) (fun _ R s => s.heap.get? l = some { cls := .type "tuple", dict := dct, data := .seq items n, slots := sl } ∧
      R (.ok (.ret (.ref (s.heap.push { cls := .type "tuple_iterator", data := .fields #[.ref l, .int 0 0] }).objs.size)))
        { s with heap := (s.heap.push { cls := .type "tuple_iterator", data := .fields #[.ref l, .int 0 0] }).push { cls := .type "enumerate", data := .fields #[.none, .bool false, .ref s.heap.objs.size, rawInt 0, .none, .none] } }) :=
  .of_wp fun prog w A R s h => by
    obtain ⟨hp, g, d, tk, os⟩ := s
    obtain ⟨hl, h⟩ := h
    have hsub := sub_enumerate
    have hL : Heap.IsTuple (Shared.heap ⟨hp, g, d, tk, os⟩) l items := ⟨_, hl, rfl, n, rfl⟩
    wp_walk using wpAny_loadPart' hl
    refine wpAny_stack_any fun st => wpAny_pure ?_
    split
    · rename_i c _ _ _ _ _
      cases (c == Value.type "enumerate")
      · wp_walk using wpAny_loadPart' hl, wpAny_pyIter_tuple hL
        exact ⟨_, rfl, h⟩
      · wp_walk using wpAny_loadPart' hl, wpAny_pyIter_tuple hL
        exact ⟨_, rfl, h⟩
    · wp_walk using wpAny_loadPart' hl, wpAny_pyIter_tuple hL
      exact ⟨_, rfl, h⟩
section
variable {prog : Program} {w : World} {A : Around} {E : Value → Shared → Prop} {s : Shared}
theorem call_ent {l : Addr} {items : Array Value} {Q : Value → Shared → Prop} (hL : s.heap.IsTuple l items)
    (h : ∀ h', IsEnum h' (s.heap.objs.size + 1) s.heap.objs.size 0 .none → h'.IsTupleIter s.heap.objs.size l 0 → h'.objs.size = s.heap.objs.size + 2 →
      (∀ b o, s.heap.get? b = some o → h'.get? b = some o) → Q (.ref (s.heap.objs.size + 1)) { s with heap := h' }) :
    wpAny (model prog w) A (call (.type "enumerate") [.ref l]) Q E s := by
  obtain ⟨⟨c, dct, dt, sl⟩, hl, hc, n, hd⟩ := hL
  replace hc : c = .type "tuple" := hc
  replace hd : dt = .seq items n := hd
  subst hc hd
  refine callType_new F.called_enumerate (by decide) (F.typeCall_enumerate_1 _) (F.newCall_enumerate_1 _) (fun obj => F.args_object_init_2 obj _) F.entry_enumerate_new
    (ent_meets l items n dct sl) ⟨hl, ?_⟩
  have hz : (s.heap.push { cls := .type "tuple_iterator", data := .fields #[.ref l, .int 0 0] }).objs.size = s.heap.objs.size + 1 := Heap.size_push ..
  show _ ∧ _
  rw [hz]
  have he : IsEnum ((s.heap.push { cls := .type "tuple_iterator", data := .fields #[.ref l, .int 0 0] }).push
      { cls := .type "enumerate", data := .fields #[.none, .bool false, .ref s.heap.objs.size, rawInt 0, .none, .none] }) (s.heap.objs.size + 1) s.heap.objs.size 0 .none := by
    have := Heap.get?_push_size (s.heap.push { cls := .type "tuple_iterator", data := .fields #[.ref l, .int 0 0] })
      (o := { cls := .type "enumerate", data := .fields #[.none, .bool false, .ref s.heap.objs.size, rawInt 0, .none, .none] }) rfl
    rw [hz] at this
    exact this
  refine ⟨⟨_, he, rfl⟩, h _ he ⟨_, Heap.get?_push_of_some _ (Heap.get?_push_size _ rfl), rfl, rfl⟩ (by rw [Heap.size_push, hz]) fun b o x => Heap.get?_push_of_some _ (Heap.get?_push_of_some _ x)⟩
theorem draws_tup {it t : Addr} {items : Array Value} (hne : t ≠ it) (hh : A.handled = none) : Draws prog w A it [it, t] items.size (fun i x => items[i]? = some x) (fun i h => h.IsTupleIter it t i ∧ h.IsTuple t items) where
  live := fun i h ⟨⟨o, e, _⟩, _⟩ => ⟨o, e⟩
  frame := fun i h h' ⟨⟨o, e, r⟩, ⟨o2, e2, r2⟩⟩ k => ⟨⟨o, k it (by simp) o e, r⟩, ⟨o2, k t (by simp) o2 e2, r2⟩⟩
  item := fun i s Q E hi ⟨h1, h2⟩ hQ => RZ.nextOf_tuple_item h1 h2 (x := items[i]) (by simp [hi]) fun h' h1' sb => hQ _ h' s.toks (by simp [hi]) ⟨h1', by
    obtain ⟨o2, e2, r2⟩ := h2
    exact ⟨o2, (sb.2 t hne).trans e2, r2⟩⟩ sb
  done := fun s Q E ⟨h1, h2⟩ hE => RZ.nextOf_tuple_end hh h1 h2 (by simp) hE
end
end PySem
namespace L2
open PySem PySem.Spec PyProof.Rows
def IteT (K : PySem.W.Frag) (a : Addr) : It :=
  ⟨fun i H => ∃ (xs : List V) (x : V), SqT K H a xs ∧ xs[i]? = some x, fun i H v H' => ∃ T x, v = .ref T ∧ H T = none ∧ H' = upd H T (.tup [.int (i : Nat), x]) ∧ ∀ xs, SqT K H a xs → xs[i]? = some x, fun i H => ∃ xs : List V, SqT K H a xs ∧ xs.length ≤ i⟩
theorem turn_ent {P : Program} {w : World} {K : PySem.W.Frag} {elts : List Expr} {kk : Nat} {tpos : Pos} (a e it : Addr) :
    Turn P w K (.Tuple elts kk tpos) (IteT K a) [e, it] e (fun i h => (∃ old, IsEnum h e it ((i : Nat) : Int) old) ∧ h.IsTupleIter it a i ∧ e ≠ it) where
  mem := by simp
  obj := fun i h st b hb => by
    obtain ⟨⟨old, he⟩, ⟨o, ho, hc, hd⟩, _⟩ := st
    have e' : b = e ∨ b = it := by simpa using hb
    rcases e' with z | z
    · rw [z]; exact ⟨_, he, fun v q => nomatch q⟩
    · rw [z]; exact ⟨o, ho, fun v q => by rw [hd] at q; cases q⟩
  keep := fun i h h' st k => let ⟨⟨old, he⟩, hi, hne⟩ := st; ⟨⟨old, k e (by simp) _ he⟩, hi.at fun o q => k it (by simp) o q, hne⟩
  item := by
    intro X hP hw hK hc i pins s σ H E I hf st hg
    subst hP hw hK
    obtain ⟨⟨old, he⟩, hit, hne⟩ := st
    obtain ⟨xs, x, hq, hx⟩ := hg
    obtain ⟨its, rv, p, hz⟩ := I.tuple hq
    obtain ⟨u, hu, ru⟩ := rv.get hx
    have hel : e < s.heap.objs.size := Heap.lt_size he
    have hil : it < s.heap.objs.size := by obtain ⟨_, q, _⟩ := hit; exact Heap.lt_size q
    have pt : s.heap.IsTuple a its.toArray := p
    have hai : a ≠ it := fun z => by
      obtain ⟨o1, e1, c1, _⟩ := pt
      obtain ⟨o2, e2, c2, _⟩ := hit
      rw [z, e2] at e1
      cases e1
      rw [c1] at c2
      exact absurd (Value.type.inj c2) (by decide)
    have hea : e ≠ a := fun z => by
      obtain ⟨o1, e1, c1, _⟩ := pt
      rw [← z, he] at e1
      cases e1
      exact absurd (Value.type.inj c1) (by decide)
    have hlt : i < its.toArray.size := by
      have := (List.getElem?_eq_some_iff.mp hu).1
      simpa using this
    refine wpAny_pyNext_enum_itemD (draws_tup (items := its.toArray) hai (I.ok.hd hc)) he ⟨hit, pt⟩ hlt hne (by simp; exact ⟨hne, hea⟩) fun x' h' tk hx' ho hit' hT hsz hk => ?_
    have ex : x' = u := by
      have hx'' : its.toArray[i]? = some x' := hx'
      simp only [List.getElem?_toArray] at hx''
      rw [hu] at hx''
      exact (Option.some.inj hx'').symm
    subst ex
    refine ⟨_, rfl, wpAny_letOwnedTupleGo_enum (s := { s with heap := h', toks := tk + 1 }) ho fun h'' he' sb => ?_⟩
    have hT2 : h''.get? s.heap.objs.size = some { cls := .type "tuple", data := .seq #[.int i tk, x'] } := (sb.2 _ (Nat.ne_of_gt hel)).trans hT
    have new : ObjOk X.prog X.w (upd H s.heap.objs.size (.tup [.int (i : Nat), x])) h'' s.heap.objs.size (.tup [.int (i : Nat), x]) :=
      ⟨by show 2 ≤ sizeLine; decide, [.int i tk, x'], .cons ⟨_, rfl⟩ (.cons ru .nil), ⟨_, hT2, rfl, _, rfl⟩⟩
    have I1 : Inv X pins σ (upd H s.heap.objs.size (.tup [.int (i : Nat), x])) { s with heap := h'', toks := tk + 1 } :=
      I.turnedNew (ch := [e, it]) (fun b ob hb q => (sb.2 b (fun z => hb (by simp [z]))).trans (hk b ob (fun z => hb (by simp [z])) (fun z => hb (by simp [z])) q)) hf (Nat.le_refl _) new
    refine ⟨.ref s.heap.objs.size, _, I1, rfl, ⟨_, x, rfl, I.hok.fresh (Nat.le_refl _), rfl, fun ys hy => by rw [I.tuple_inj hy hq]; exact hx⟩, ⟨⟨x', ?_⟩, hit'.1.at fun o q => (sb.2 it (Ne.symm hne)).trans q, hne⟩, fun b hb => ?_⟩
    · have e1 : ((i + 1 : Nat) : Int) = (i : Int) + 1 := by omega
      rw [e1]; exact he'
    · have hb' : b < s.heap.objs.size := by
        have e' : b = e ∨ b = it := by simpa using hb
        rcases e' with z | z
        · rw [z]; exact hel
        · rw [z]; exact hil
      rw [upd_ne (Nat.ne_of_lt hb')]
      exact (hf b hb).1
  done := by
    intro X hP hw hK hc i pins s σ H E I hf st hg
    subst hP hw hK
    obtain ⟨⟨old, he⟩, hit, hne⟩ := st
    obtain ⟨xs, hq, hx⟩ := hg
    obtain ⟨its, rv, p, hz⟩ := I.tuple hq
    obtain ⟨f0, f1, f2, f3, f4, f5⟩ := hf it (by simp)
    have hl := rv.length
    have pt : s.heap.IsTuple a its.toArray := p
    have hh := I.ok.hd hc
    have hT : s.TypeIs (.ref e) "enumerate" := ⟨_, he, rfl⟩
    unfold pyNext
    refine wpAny_bind (wpAny_attempt (wpAny_callSpecial?_slot (name := Str.ofString "__next__") hT F.slot_enumerate_next
      (wpAny_call_entry F.slot_enumerate_next hT F.entry_enumerate_next ?_ (F.args_enumerate_next_1 _))))
    show wpAny _ _ (field (.ref e) 2 >>= _) _ _ _
    refine wpAny_bind (wpAny_field he rfl (x := .ref it) rfl ?_)
    refine wpAny_bind (RZ.nextOf_tuple_end hh hit pt (by simp; omega) fun h' x he' hx' => ?_)
    obtain ⟨o, ho, hc⟩ := hx'
    refine wpAny_bind (wpAny_isInstance (T := "StopIteration") (b := true) ⟨o, ho, hc⟩ isSubtype_stop ?_)
    exact wpAny_pure ⟨rfl, I.turned (t' := s.toks) (fun b o hb q => he' b o hb q) f0 f1 f3 f4 f5⟩
  self := fun A i s Q E st h => let ⟨⟨_, he⟩, _⟩ := st; wpAny_pyIter_enum he h
def iEnT (K : PySem.W.Frag) (ta : TA) : TI := fun σ H R => ta σ H fun vs H1 => ∃ a xs, vs = [.ref a] ∧ SqT K H1 a xs ∧ R (IteT K a) H1
theorem pi_ent {X : Cx} {e : Expr} {ta : TA} {p pos tpos : Pos} {elts : List Expr} {kk : Nat} (hg : Gl X "enumerate") (hm : X.mg "enumerate" = none) (ha : PA X [e] ta) (hs : starEach [e] X.env = [(false, eval e X.env)] := by rfl) :
    PI X (.Tuple elts kk tpos) (.Call (.Name "enumerate" p) [e] [] pos) (iEnT X.K ta) := by
  refine ⟨fun pins s σ H R I h => ?_⟩
  refine Call_ (ld_blt I hg hm boot_enumerate (PyProof.Rows.callWith_type1 (thn (ha.run pos pins s σ H _ I h) fun us s1 ⟨vs, H1, I1, r1, q1⟩ => ?_) hs rfl))
  obtain ⟨a, xs, ex, hq, q⟩ := q1
  subst ex
  cases r1 with
  | cons r rr =>
    cases rr
    cases r
    obtain ⟨its, rv, p', hz⟩ := I1.tuple hq
    refine call_ent (show s1.heap.IsTuple a its.toArray from p') fun h' he hit hsz hk => wpAny_pyIter_enum he ?_
    have I2 : Inv X pins σ H1 { s1 with heap := h' } := I1.kept (t' := s1.toks) hk
    refine ⟨s1.heap.objs.size + 1, [s1.heap.objs.size + 1, s1.heap.objs.size], _, _, H1, rfl, I2, turn_ent a (s1.heap.objs.size + 1) s1.heap.objs.size, ⟨⟨.none, he⟩, hit, Nat.succ_ne_self _⟩, fun b hb => ?_, q⟩
    have e' : b = s1.heap.objs.size + 1 ∨ b = s1.heap.objs.size := by simpa using hb
    have hle : s1.heap.objs.size ≤ b := by
      rcases e' with z | z
      · rw [z]; exact Nat.le_add_right _ _
      · rw [z]; exact Nat.le_refl _
    exact I1.fpOk hle (I1.hok.fresh hle)
end L2
/-! The D layer: a def's text read as a transformer over plain data, without heap. -/
namespace DL
open PySem PySem.Spec PyProof.Rows L2
/-! ### heaps: what stands for good -/
abbrev Ex (H H' : Hp) : Prop := ∀ b o, H b = some o → H' b = some o
theorem Ex.rf (H : Hp) : Ex H H := fun _ _ e => e
theorem Ex.tr {H H1 H2 : Hp} (a : Ex H H1) (b : Ex H1 H2) : Ex H H2 := fun x o h => b x o (a x o h)
theorem upd_at {H : Hp} {p : Addr} {o : HO} : (upd H p o) p = some o := upd_same
theorem ex_new {H : Hp} {p : Addr} {o : HO} (h : H p = none) : Ex H (upd H p o) := fun b u e => (upd_ne (ne_of_none e h)).trans e
theorem ex_none {G H : Hp} (e : Ex G H) {p : Addr} (h : H p = none) : G p = none := by
  cases q : G p with
  | none => rfl
  | some o => rw [e p o q] at h; cases h
theorem ex_put {G H : Hp} (e : Ex G H) {p : Addr} {o : HO} (h : G p = none) : Ex G (upd H p o) := fun b u q => (upd_ne fun z => by rw [z, h] at q; cases q).trans (e b u q)
theorem ex_fix {G H : Hp} (e : Ex G H) {p : Addr} {o : HO} : Ex (upd G p o) (upd H p o) := fun b u q => by
  by_cases z : b = p
  · subst z
    rw [upd_at] at q ⊢
    exact q
  · rw [upd_ne z] at q ⊢
    exact e b u q
theorem ex_fix' {G H : Hp} (e : Ex G H) {p : Addr} {o : HO} (h : H p = some o) : Ex (upd G p o) H := fun b u q => by
  by_cases z : b = p
  · subst z
    rw [upd_at] at q
    rw [h]
    exact q
  · rw [upd_ne z] at q
    exact e b u q
/-! ### data -/
inductive D where
  | non | bl (b : Bool) | int (i : Int) | str (x : Str) | tup (ds : List D) | lst (ds : List D) | dct (ks : List Key) (ds : List D) | obj (C : Addr) (ns : List Str) (ds : List D) | ty (n : String) | cls (C : Addr) | clo (d : Clo.CloD) | sc (d : Clo.CloD) (env : List D)
mutual
inductive Vd (H : Hp) : V → D → Prop
  | non : Vd H .non .non
  | bl (b : Bool) : Vd H (.bl b) (.bl b)
  | int (i : Int) : Vd H (.int i) (.int i)
  | str (x : Str) : Vd H (.str x) (.str x)
  | ty (n : String) : Vd H (.ty n) (.ty n)
  | cls (C : Addr) : Vd H (.ref C) (.cls C)
  | clo {f : Addr} {d : Clo.CloD} : Clo.LamAt H f d → Vd H (.ref f) (.clo d)
  | sc {f : Addr} {d : Clo.CloD} {vs : List V} {env : List D} : Clo.LamAt H f d → Clo.SC H d vs → Vds H vs env → Vd H (.ref f) (.sc d env)
  | lst {a : Addr} {xs : List V} {ds : List D} : H a = some (.lst xs) → Vds H xs ds → Vd H (.ref a) (.lst ds)
  | tup {a : Addr} {xs : List V} {ds : List D} : H a = some (.tup xs) → Vds H xs ds → Vd H (.ref a) (.tup ds)
  | dct {a : Addr} {ks : List Key} {xs : List V} {ds : List D} : H a = some (.dK (ks.zip xs)) → ks.length = xs.length → Vds H xs ds → Vd H (.ref a) (.dct ks ds)
  | obj {a C dx : Addr} {ns : List Str} {xs : List V} {ds : List D} : H a = some (.ins C dx (ns.zip xs)) → ns.length = xs.length → Vds H xs ds → Vd H (.ref a) (.obj C ns ds)
inductive Vds (H : Hp) : List V → List D → Prop
  | nil : Vds H [] []
  | cons {v : V} {vs : List V} {d : D} {ds : List D} : Vd H v d → Vds H vs ds → Vds H (v :: vs) (d :: ds)
end
mutual
theorem Vd.mono {H H' : Hp} (e : Ex H H') : ∀ {d : D} {v : V}, Vd H v d → Vd H' v d
  | _, _, .non => .non
  | _, _, .bl b => .bl b
  | _, _, .int i => .int i
  | _, _, .str x => .str x
  | _, _, .ty n => .ty n
  | _, _, .cls C => .cls C
  | _, _, .clo h => .clo (h.mono e)
  | _, _, .sc h k t => .sc (h.mono e) (k.mono e) (Vds.mono e t)
  | _, _, .lst h t => .lst (e _ _ h) (Vds.mono e t)
  | _, _, .tup h t => .tup (e _ _ h) (Vds.mono e t)
  | _, _, .dct h l t => .dct (e _ _ h) l (Vds.mono e t)
  | _, _, .obj h l t => .obj (e _ _ h) l (Vds.mono e t)
theorem Vds.mono {H H' : Hp} (e : Ex H H') : ∀ {ds : List D} {vs : List V}, Vds H vs ds → Vds H' vs ds
  | _, _, .nil => .nil
  | _, _, .cons h t => .cons (Vd.mono e h) (Vds.mono e t)
end
theorem Vds.len {H : Hp} : ∀ {ds : List D} {vs : List V}, Vds H vs ds → vs.length = ds.length
  | _, _, .nil => rfl
  | _, _, .cons _ t => congrArg Nat.succ t.len
theorem Vds.get {H : Hp} : ∀ {ds : List D} {vs : List V}, Vds H vs ds → ∀ {i : Nat} {d : D}, ds[i]? = some d → ∃ v, vs[i]? = some v ∧ Vd H v d
  | _, _, .nil, i, d, h => by cases h
  | _, _, .cons h t, 0, d, e => by
    cases e
    exact ⟨_, rfl, h⟩
  | _, _, .cons h t, i + 1, d, e => t.get (i := i) e
theorem Vds.getV {H : Hp} : ∀ {ds : List D} {vs : List V}, Vds H vs ds → ∀ {i : Nat} {v : V}, vs[i]? = some v → ∃ d, ds[i]? = some d ∧ Vd H v d
  | _, _, .nil, i, d, h => by cases h
  | _, _, .cons h t, 0, d, e => by
    cases e
    exact ⟨_, rfl, h⟩
  | _, _, .cons h t, i + 1, d, e => t.getV (i := i) e
theorem Vds.app {H : Hp} : ∀ {ds es : List D} {vs us : List V}, Vds H vs ds → Vds H us es → Vds H (vs ++ us) (ds ++ es)
  | _, _, _, _, .nil, k => k
  | _, _, _, _, .cons h t, k => .cons h (t.app k)
theorem Vds.snoc {H : Hp} {ds : List D} {vs : List V} {d : D} {v : V} (h : Vds H vs ds) (k : Vd H v d) : Vds H (vs ++ [v]) (ds ++ [d]) := h.app (.cons k .nil)
/-! ### the pen: a dict with five rows and its list -/
def penL (L : Addr) (at_ dg cn fo : Int) : List (Key × V) := [(.inr "cells", .ref L), (.inr "at", .int at_), (.inr "digits", .int dg), (.inr "count", .int cn), (.inr "fold", .int fo)]
def PenAt (H : Hp) (p L : Addr) (c : Int) : Prop := ∃ (ns : List Int) (at_ dg cn fo : Int), H p = some (.dK (penL L at_ dg cn fo)) ∧ H L = some (.lst (ns.map V.int)) ∧ 0 ≤ at_ ∧ at_ ≤ ns.length ∧ ns.length ≤ 63 ∧ 0 ≤ dg ∧ 0 ≤ cn ∧ cn ≤ c ∧ 0 ≤ fo ∧ fo < 2147483477
theorem PenAt.ex {H H' : Hp} {p L : Addr} {c : Int} (e : Ex H H') (h : PenAt H p L c) : PenAt H' p L c := by
  obtain ⟨ns, at_, dg, cn, fo, hp, hL, r⟩ := h
  exact ⟨ns, at_, dg, cn, fo, e _ _ hp, e _ _ hL, r⟩
theorem PenAt.put {H : Hp} {p L a : Addr} {c : Int} {o : HO} (np : a ≠ p) (nL : a ≠ L) (h : PenAt H p L c) : PenAt (upd H a o) p L c := by
  obtain ⟨ns, at_, dg, cn, fo, hp, hL, r⟩ := h
  exact ⟨ns, at_, dg, cn, fo, (upd_ne np.symm).trans hp, (upd_ne nL.symm).trans hL, r⟩
theorem PenAt.ne {H : Hp} {p L a : Addr} {c : Int} (h : PenAt H p L c) (ha : H a = none) : a ≠ p ∧ a ≠ L := by
  obtain ⟨ns, at_, dg, cn, fo, hp, hL, r⟩ := h
  exact ⟨fun z => (by rw [z, hp] at ha; cases ha), fun z => (by rw [z, hL] at ha; cases ha)⟩
/-! ### states -/
/-- rows of a dict -/
inductive Kvs (H : Hp) : List (Key × V) → List (Key × D) → Prop
  | nil : Kvs H [] []
  | cons {k : Key} {v : V} {vs : List (Key × V)} {d : D} {ds : List (Key × D)} : Vd H v d → Kvs H vs ds → Kvs H ((k, v) :: vs) ((k, d) :: ds)
theorem Kvs.mono {H H' : Hp} (e : Ex H H') : ∀ {ds : List (Key × D)} {vs : List (Key × V)}, Kvs H vs ds → Kvs H' vs ds
  | _, _, .nil => .nil
  | _, _, .cons h t => .cons (Vd.mono e h) (t.mono e)
/-- what is one's own: a list, a dict -/
inductive OD where
  | l (ds : List D) | k (kd : List (Key × D))
/-- what stands at the address of one's own thing -/
def OV (G : Hp) : OD → HO → Prop
  | .l ds, o => ∃ vs, o = .lst vs ∧ Vds G vs ds
  | .k kd, o => ∃ kvs, o = .dK kvs ∧ Kvs G kvs kd
theorem OV.mono {H H' : Hp} (e : Ex H H') : ∀ {x : OD} {o : HO}, OV H x o → OV H' x o
  | .l _, _, ⟨vs, a, b⟩ => ⟨vs, a, Vds.mono e b⟩
  | .k _, _, ⟨vs, a, b⟩ => ⟨vs, a, b.mono e⟩
theorem OV.tbl {H : Hp} : ∀ {x : OD} {o : HO}, OV H x o → ∀ ps, o ≠ .tbl ps
  | .l _, _, ⟨vs, a, b⟩, ps => by rw [a]; exact fun z => nomatch z
  | .k _, _, ⟨vs, a, b⟩, ps => by rw [a]; exact fun z => nomatch z
theorem OV.code {H : Hp} : ∀ {x : OD} {o : HO}, OV H x o → ∀ b q, o ≠ LamX.CodeO b q
  | .l _, _, ⟨vs, a, b⟩, ps, q => by rw [a]; exact fun z => nomatch z
  | .k _, _, ⟨vs, a, b⟩, ps, q => by rw [a]; exact fun z => nomatch z
inductive Slot where
  | no | d (x : D) | own (o : OD) | pen
structure S where
  sl : List Slot
  c : Int
abbrev S.set (s : S) (i : Nat) (x : Slot) : S := ⟨s.sl.set i x, s.c⟩
/-- what a def's walk stands on: the pen (its address and its list's), the heaps at its begin -/
structure Cm where
  pen : Option (Addr × Addr)
  G0 : Hp
  H0 : Hp
  tabs : List (Addr × Str)
/-- b is not what the pen's holder may change -/
def Fr0 (M : Cm) (b : Addr) : Prop := (∀ p L, M.pen = some (p, L) → b ≠ p) ∧ b ∉ M.tabs.map (·.1)
/-- a may be a list of one's own -/
def OwnOk (M : Cm) (a : Addr) : Prop := (∀ p L, M.pen = some (p, L) → a ≠ p ∧ a ≠ L) ∧ a ∉ M.tabs.map (·.1)
theorem OwnOk.fr {M : Cm} {a : Addr} (h : OwnOk M a) : Fr0 M a := ⟨fun p L e => (h.1 p L e).1, h.2⟩
/-- the tables of code objects -/
def TabG (T : List (Addr × Str)) (G H : Hp) : Prop := ∀ p ∈ T, ∃ ps : Array Value, H p.1 = some (.tbl ps) ∧ TriplesOk ps.toList ∧ ∀ (pos : Pos) (cv : Value), codeAmong pos ps.toList = some cv → ∃ c, cv = .ref c ∧ G c = some (LamX.CodeO c p.2)
def TabOk (M : Cm) (G H : Hp) : Prop := TabG M.tabs G H ∧ ∀ q ∈ M.tabs.map (·.1), G q = none
theorem TabOk.at_ {M : Cm} {G H : Hp} (h : TabOk M G H) {q : Addr} (hq : q ∈ M.tabs.map (·.1)) : ∃ ps, H q = some (.tbl ps) := by
  obtain ⟨p, hp, rfl⟩ := List.mem_map.mp hq
  obtain ⟨ps, e, _⟩ := h.1 p hp
  exact ⟨ps, e⟩
theorem TabOk.ne {M : Cm} {G H : Hp} (h : TabOk M G H) {a : Addr} (ha : ∀ ps, H a ≠ some (.tbl ps)) : a ∉ M.tabs.map (·.1) := fun hq => by
  obtain ⟨ps, e⟩ := h.at_ hq
  exact ha ps e
/-- what is no table may change -/
theorem tabs_keep {T : List (Addr × Str)} {G G' H H' : Hp} (t : TabG T G H) (k : ∀ b ps, H b = some (.tbl ps) → H' b = some (.tbl ps)) (g : Ex G G') : TabG T G' H' := fun p hp => by
  obtain ⟨ps, h1, h2, h3⟩ := t p hp
  refine ⟨ps, k _ _ h1, h2, fun pos cv hc => ?_⟩
  obtain ⟨c, e1, e2⟩ := h3 pos cv hc
  exact ⟨c, e1, g _ _ e2⟩
theorem TabOk.ex {M : Cm} {G H G' H' : Hp} (h : TabOk M G H) (x : Ex G H) (e : Ex H H') (g : ∀ b, H b ≠ none → G' b = G b) : TabOk M G' H' := ⟨tabs_keep h.1 (fun b ps q => e _ _ q) fun b o q => (g b (by rw [x b o q]; exact fun z => nomatch z)).trans q, fun q hq => by
  obtain ⟨ps, e'⟩ := h.at_ hq
  exact (g q (by rw [e']; exact fun z => nomatch z)).trans (h.2 q hq)⟩
def SlOk (M : Cm) (G H : Hp) : Slot → Option V → Prop
  | .no, _ => True
  | .d x, ov => ∃ v, ov = some v ∧ Vd G v x
  | .own ds, ov => ∃ a o, ov = some (.ref a) ∧ H a = some o ∧ OV G ds o ∧ G a = none ∧ M.H0 a = none ∧ OwnOk M a
  | .pen, ov => ∃ p L, M.pen = some (p, L) ∧ ov = some (.ref p)
structure Rel (M : Cm) (s : S) (σ : L2.St) (G H : Hp) : Prop where
  ex : Ex G H
  fr : ∀ b, M.H0 b ≠ none → Fr0 M b → H b = M.H0 b ∧ G b = M.G0 b
  pen : ∀ p L, M.pen = some (p, L) → PenAt H p L s.c ∧ G p = none
  tab : TabOk M G H
  len : s.sl.length = σ.length
  sl : ∀ (i : Nat) (x : Slot) (ov : Option V), s.sl[i]? = some x → σ[i]? = some ov → SlOk M G H x ov
  inj : ∀ (i j : Nat) (ds es : OD) (a : Addr), s.sl[i]? = some (.own ds) → s.sl[j]? = some (.own es) → σ[i]? = some (some (.ref a)) → σ[j]? = some (some (.ref a)) → i = j
section
variable {M : Cm} {s : S} {σ : L2.St} {G H : Hp}
/-- b is not the pen, not one's own list -/
def Out (M : Cm) (s : S) (σ : L2.St) (b : Addr) : Prop := Fr0 M b ∧ ∀ (i : Nat) (es : OD), s.sl[i]? = some (.own es) → σ[i]? ≠ some (some (.ref b))
/-- a step: G grows, what is there stays but the pen and one's own lists -/
structure Go (M : Cm) (σ : L2.St) (s : S) (G H : Hp) (s' : S) (G' H' : Hp) : Prop where
  ex : Ex G G'
  old : ∀ b, H b ≠ none → Out M s σ b → H' b = H b ∧ G' b = G b
  own : ∀ i : Nat, (∃ es, s'.sl[i]? = some (.own es)) ↔ ∃ es, s.sl[i]? = some (.own es)
theorem Go.rf : Go M σ s G H s G H := ⟨Ex.rf G, fun _ _ _ => ⟨rfl, rfl⟩, fun _ => Iff.rfl⟩
theorem Go.tr {s1 s2 : S} {G1 H1 G2 H2 : Hp} (a : Go M σ s G H s1 G1 H1) (b : Go M σ s1 G1 H1 s2 G2 H2) : Go M σ s G H s2 G2 H2 := ⟨a.ex.tr b.ex, fun x h n => by
  obtain ⟨e1, e2⟩ := a.old x h n
  obtain ⟨e3, e4⟩ := b.old x (by rw [e1]; exact h) ⟨n.1, fun i es hi => by
    obtain ⟨es', h'⟩ := (a.own i).mp ⟨es, hi⟩
    exact n.2 i es' h'⟩
  exact ⟨e3.trans e1, e4.trans e2⟩, fun i => (b.own i).trans (a.own i)⟩
theorem Rel.getO (R : Rel M s σ G H) {i : Nat} {ds : OD} (h : s.sl[i]? = some (.own ds)) : ∃ a o, σ[i]? = some (some (.ref a)) ∧ H a = some o ∧ OV G ds o ∧ G a = none ∧ M.H0 a = none ∧ OwnOk M a := by
  have hi : i < s.sl.length := (List.getElem?_eq_some_iff.mp h).1
  have h2 : i < σ.length := by rw [← R.len]; exact hi
  obtain ⟨a, vs, e, r⟩ := R.sl i _ _ h (List.getElem?_eq_getElem h2)
  exact ⟨a, vs, by rw [List.getElem?_eq_getElem h2, e], r⟩
theorem Rel.getL (R : Rel M s σ G H) {i : Nat} {ds : List D} (h : s.sl[i]? = some (.own (.l ds))) : ∃ a vs, σ[i]? = some (some (.ref a)) ∧ H a = some (.lst vs) ∧ Vds G vs ds ∧ G a = none ∧ M.H0 a = none ∧ OwnOk M a := by
  obtain ⟨a, o, e1, e2, ⟨vs, rfl, e3⟩, e4⟩ := R.getO h
  exact ⟨a, vs, e1, e2, e3, e4⟩
theorem Rel.getK (R : Rel M s σ G H) {i : Nat} {ds : List (Key × D)} (h : s.sl[i]? = some (.own (.k ds))) : ∃ a kvs, σ[i]? = some (some (.ref a)) ∧ H a = some (.dK kvs) ∧ Kvs G kvs ds ∧ G a = none ∧ M.H0 a = none ∧ OwnOk M a := by
  obtain ⟨a, o, e1, e2, ⟨vs, rfl, e3⟩, e4⟩ := R.getO h
  exact ⟨a, vs, e1, e2, e3, e4⟩
/-- a state is kept by a step that keeps all that is there, but the pen -/
theorem Rel.go {c' : Int} {G' H' : Hp} (R : Rel M s σ G H) (ex : Ex G G') (old : ∀ b, H b ≠ none → Fr0 M b → H' b = H b ∧ G' b = G b) (sub : Ex G' H')
    (hp : ∀ p L, M.pen = some (p, L) → PenAt H' p L c' ∧ G' p = none) (ht : TabOk M G' H') : Rel M ⟨s.sl, c'⟩ σ G' H' := by
  refine ⟨sub, fun b hb hn => ?_, hp, ht, R.len, fun i x ov h1 h2 => ?_, R.inj⟩
  · obtain ⟨e1, e2⟩ := R.fr b hb hn
    obtain ⟨e3, e4⟩ := old b (by rw [e1]; exact hb) hn
    exact ⟨e3.trans e1, e4.trans e2⟩
  · have h := R.sl i x ov h1 h2
    cases x with
    | no => exact h
    | d x =>
      obtain ⟨v, h2, h3⟩ := h
      exact ⟨v, h2, Vd.mono ex h3⟩
    | own ds =>
      obtain ⟨a, vs, h1, h2, h3, h4, h5, h6⟩ := h
      obtain ⟨e1, e2⟩ := old a (by rw [h2]; exact fun z => nomatch z) h6.fr
      exact ⟨a, vs, h1, e1.trans h2, h3.mono ex, e2.trans h4, h5, h6⟩
    | pen => exact h
theorem new_old {p : Addr} {o u : HO} (hp : H p = none) (b : Addr) (hb : H b ≠ none) : (upd H p o) b = H b ∧ (upd G p u) b = G b := by
  have ne : b ≠ p := fun z => hb (by rw [z]; exact hp)
  exact ⟨upd_ne ne, upd_ne ne⟩
theorem lay_old {p : Addr} {o : HO} (hp : H p = none) (b : Addr) (hb : H b ≠ none) : (upd H p o) b = H b ∧ G b = G b := ⟨upd_ne fun z => hb (by rw [z]; exact hp), rfl⟩
theorem Go.new (R : Rel M s σ G H) {p : Addr} {o : HO} (hp : H p = none) : Go M σ s G H s (upd G p o) (upd H p o) := ⟨ex_new (ex_none R.ex hp), fun b hb _ => new_old hp b hb, fun _ => Iff.rfl⟩
theorem Go.lay {p : Addr} {o : HO} (hp : H p = none) : Go M σ s G H s G (upd H p o) := ⟨Ex.rf G, fun b hb _ => lay_old hp b hb, fun _ => Iff.rfl⟩
/-- what is free behind a step was free before -/
theorem Go.none {s1 : S} {G1 H1 : Hp} (g : Go M σ s G H s1 G1 H1) (r : Rel M s σ G H) (r1 : Rel M s1 σ G1 H1) {x : Addr} (h : H1 x = none) : H x = none := by
  cases q : H x with
  | none => rfl
  | some o =>
    exfalso
    by_cases out : Out M s σ x
    · have := (g.old x (by rw [q]; exact fun z => nomatch z) out).1
      rw [h, q] at this
      cases this
    · refine out ⟨⟨fun p L e z => ?_, fun z => ?_⟩, fun i es hi z => ?_⟩
      · exact ((r1.pen p L e).1.ne h).1 z
      · obtain ⟨ps, e⟩ := r1.tab.at_ z
        rw [h] at e
        cases e
      · obtain ⟨es', h'⟩ := (g.own i).mpr ⟨es, hi⟩
        obtain ⟨a, vs, e1, e2, _⟩ := r1.getO h'
        rw [z] at e1
        cases e1
        rw [h] at e2
        cases e2
theorem Rel.penNew (R : Rel M s σ G H) {a : Addr} {o : HO} (ha : H a = none) {G' : Hp} (hG : ∀ b, b ≠ a → G' b = G b) : ∀ p L, M.pen = some (p, L) → PenAt (upd H a o) p L s.c ∧ G' p = none := fun p L e => by
  obtain ⟨h1, h2⟩ := R.pen p L e
  exact ⟨h1.ex (ex_new ha), (hG p (h1.ne ha).1.symm).trans h2⟩
theorem Rel.new (R : Rel M s σ G H) {p : Addr} {o : HO} (hp : H p = none) : Rel M s σ (upd G p o) (upd H p o) := R.go (ex_new (ex_none R.ex hp)) (fun b hb _ => new_old hp b hb) (ex_fix R.ex) (R.penNew hp fun b n => upd_ne n) (R.tab.ex R.ex (ex_new hp) fun b hb => (new_old (o := o) (u := o) hp b hb).2)
theorem Rel.lay (R : Rel M s σ G H) {p : Addr} {o : HO} (hp : H p = none) : Rel M s σ G (upd H p o) := R.go (Ex.rf G) (fun b hb _ => lay_old hp b hb) (ex_put R.ex (ex_none R.ex hp)) (R.penNew hp fun b n => rfl) (R.tab.ex R.ex (ex_new hp) fun b hb => rfl)
theorem Rel.getD (R : Rel M s σ G H) {i : Nat} {x : D} (h : s.sl[i]? = some (.d x)) : ∃ v, σ[i]? = some (some v) ∧ Vd G v x := by
  have hi : i < s.sl.length := (List.getElem?_eq_some_iff.mp h).1
  have h2 : i < σ.length := by rw [← R.len]; exact hi
  obtain ⟨v, e, hv⟩ := R.sl i _ _ h (List.getElem?_eq_getElem h2)
  exact ⟨v, by rw [List.getElem?_eq_getElem h2, e], hv⟩
theorem Rel.getP (R : Rel M s σ G H) {i : Nat} (h : s.sl[i]? = some .pen) : ∃ p L, M.pen = some (p, L) ∧ σ[i]? = some (some (.ref p)) := by
  have hi : i < s.sl.length := (List.getElem?_eq_some_iff.mp h).1
  have h2 : i < σ.length := by rw [← R.len]; exact hi
  obtain ⟨p, L, e, r⟩ := R.sl i _ _ h (List.getElem?_eq_getElem h2)
  exact ⟨p, L, e, by rw [List.getElem?_eq_getElem h2, r]⟩
/-- a slot is written -/
theorem Rel.set (R : Rel M s σ G H) {i : Nat} {x : Slot} {ov : Option V} (hx : SlOk M G H x ov) (ho : ∀ (ds : OD) (a : Addr) (j : Nat) (es : OD), x = .own ds → ov = some (.ref a) → j ≠ i → s.sl[j]? = some (.own es) → σ[j]? ≠ some (some (.ref a))) : Rel M (s.set i x) (σ.set i ov) G H := by
  refine ⟨R.ex, R.fr, R.pen, R.tab, by simp [S.set, R.len], fun j y ow h1 h2 => ?_, fun j k ds es a w1 w2 h3 h4 => ?_⟩
  · have h1 : (s.sl.set i x)[j]? = some y := h1
    rw [List.getElem?_set] at h1 h2
    by_cases e : i = j
    · rw [if_pos e] at h1 h2
      split at h1
      · cases h1
        split at h2
        · cases h2
          exact hx
        · cases h2
      · cases h1
    · rw [if_neg e] at h1 h2
      exact R.sl j y ow h1 h2
  · have h1 : (s.sl.set i x)[j]? = some (.own ds) := w1
    have h2 : (s.sl.set i x)[k]? = some (.own es) := w2
    clear w1 w2
    rw [List.getElem?_set] at h1 h2 h3 h4
    by_cases e : i = j
    · by_cases e' : i = k
      · rw [← e, ← e']
      · rw [if_pos e] at h1 h3
        rw [if_neg e'] at h2 h4
        split at h1
        · split at h3
          · cases h1
            cases h3
            exact absurd h4 (ho ds a k es rfl rfl (Ne.symm e') h2)
          · cases h3
        · cases h1
    · rw [if_neg e] at h1 h3
      by_cases e' : i = k
      · rw [if_pos e'] at h2 h4
        split at h2
        · split at h4
          · cases h2
            cases h4
            exact absurd h3 (ho es a j ds rfl rfl (Ne.symm e) h1)
          · cases h4
        · cases h2
      · rw [if_neg e'] at h2 h4
        exact R.inj j k ds es a h1 h2 h3 h4
theorem Rel.setD (R : Rel M s σ G H) {i : Nat} {x : D} {v : V} (h : Vd G v x) : Rel M (s.set i (.d x)) (σ.set i (some v)) G H := R.set ⟨v, rfl, h⟩ fun _ _ _ _ e => nomatch e
theorem Rel.setN (R : Rel M s σ G H) {i : Nat} {ov : Option V} : Rel M (s.set i .no) (σ.set i ov) G H := R.set True.intro fun _ _ _ _ e => nomatch e
end
end DL
namespace DL
open PySem PySem.Spec PyProof.Rows L2
/-! ### contexts: one, or all those of a block -/
structure Fam (P : Program) (w : World) (K : PySem.W.Frag) (mg : Str → Option Value) (base : Heap) (k : Nat) where
  ι : Type
  X : ι → Cx
  hP : ∀ i, (X i).prog = P
  hw : ∀ i, (X i).w = w
  hK : ∀ i, (X i).K = K
  hm : ∀ i, (X i).mg = mg
  hb : ∀ i, (X i).base = base
  hr : ∀ i, Room k (X i).A
  hG : ∀ i, (X i).A.guards = some []
  hc : ∀ i, (X i).calm = true
  E : XK
  hx : ∀ i, Passes (L2.CX P w) (X i) E
abbrev DE := S → (D → S → Prop) → Prop
abbrev DA := S → (List D → S → Prop) → Prop
abbrev DT := S → (Bool → S → Prop) → Prop
def ESound (M : Cm) (t : TE) (φ : DE) : Prop := ∀ (s : S) (σ : L2.St) (G H : Hp) (R : D → S → Prop) (Q : VK), Rel M s σ G H → φ s R → (∀ d s' v G' H', R d s' → Rel M s' σ G' H' → Go M σ s G H s' G' H' → Vd G' v d → Q v H') → t σ H Q
def ASound (M : Cm) (t : TA) (φ : DA) : Prop := ∀ (s : S) (σ : L2.St) (G H : Hp) (R : List D → S → Prop) (Q : List V → Hp → Prop), Rel M s σ G H → φ s R → (∀ ds s' vs G' H', R ds s' → Rel M s' σ G' H' → Go M σ s G H s' G' H' → Vds G' vs ds → Q vs H') → t σ H Q
def TSound (M : Cm) (t : TT) (φ : DT) : Prop := ∀ (s : S) (σ : L2.St) (G H : Hp) (R : Bool → S → Prop) (Q : Bool → Hp → Prop), Rel M s σ G H → φ s R → (∀ b s' G' H', R b s' → Rel M s' σ G' H' → Go M σ s G H s' G' H' → Q b H') → t σ H Q
/-- a list that is made: it may be kept for good, or as one's own -/
def LSound (M : Cm) (t : TE) (φ : DA) : Prop := ∀ (s : S) (σ : L2.St) (G H : Hp) (R : List D → S → Prop) (Q : VK), Rel M s σ G H → φ s R →
  (∀ ds s' a vs G' H', R ds s' → Rel M s' σ G' H' → Go M σ s G H s' G' H' → Vds G' vs ds → H a = none → H' a = some (.lst vs) → G' a = none → M.H0 a = none → OwnOk M a → (∀ (i : Nat) (es : OD), s'.sl[i]? = some (.own es) → σ[i]? ≠ some (some (.ref a))) → Q (.ref a) H') → t σ H Q
section
variable {P : Program} {w : World} {K : PySem.W.Frag} {mg : Str → Option Value} {base : Heap} {k : Nat} {M : Cm} {F : Fam P w K mg base k}
variable (M F) in
def ED (e : Expr) (φ : DE) : Prop := ∃ t, (∀ i, PE (F.X i) e t) ∧ ESound M t φ
variable (M F) in
def EA (es : List Expr) (φ : DA) : Prop := ∃ t, (∀ i, PA (F.X i) es t) ∧ ASound M t φ
variable (M F) in
def ET (e : Expr) (φ : DT) : Prop := ∃ t, (∀ i, PT (F.X i) e t) ∧ TSound M t φ
variable (M F) in
def EL (e : Expr) (φ : DA) : Prop := ∃ t, (∀ i, PE (F.X i) e t) ∧ LSound M t φ
/-! ### plain expressions -/
@[simp] def dVar (i : Nat) : DE := fun s R => match s.sl[i]? with
  | some (.d x) => R x s
  | _ => False
theorem e_var (i : Nat) {e : Expr} (h : ∀ j, PE (F.X j) e (tVar i)) : ED M F e (dVar i) := ⟨_, h, fun s σ G H R Q rel h q => by
  unfold dVar at h
  split at h
  · rename_i x hx
    obtain ⟨v, e, hv⟩ := rel.getD hx
    exact ⟨v, e, q _ _ _ _ _ h rel Go.rf hv⟩
  · exact h.elim⟩
@[simp] def dC (x : D) : DE := fun s R => R x s
theorem e_c {e : Expr} {v : V} {x : D} (h : ∀ j, PE (F.X j) e (tC v)) (hv : ∀ G, Vd G v x) : ED M F e (dC x) := ⟨_, h, fun s σ G H R Q rel h q => q _ _ _ _ _ h rel Go.rf (hv G)⟩
theorem e_int {i : Int} {j pos} : ED M F (.Constant (.int i) j pos) (dC (.int i)) := e_c (fun _ => pe_int) fun _ => .int i
theorem e_str {x : Str} {j pos} : ED M F (.Constant (.str x) j pos) (dC (.str x)) := e_c (fun _ => pe_str) fun _ => .str x
theorem e_bl {b : Bool} {j pos} : ED M F (.Constant (.bool b) j pos) (dC (.bl b)) := e_c (fun _ => pe_bl) fun _ => .bl b
theorem e_non {j pos} : ED M F (.Constant .none j pos) (dC .non) := e_c (fun _ => pe_non) fun _ => .non
@[simp] def aNil : DA := fun s R => R [] s
@[simp] def aCons (φ : DE) (ψ : DA) : DA := fun s R => φ s fun d s1 => ψ s1 fun ds s2 => R (d :: ds) s2
theorem a_nil : EA M F [] aNil := ⟨_, fun _ => pa_nil, fun s σ G H R Q rel h q => q _ _ _ _ _ h rel Go.rf .nil⟩
theorem a_cons {e : Expr} {es : List Expr} {φ : DE} {ψ : DA} (h1 : ED M F e φ) (h2 : EA M F es ψ) (hs : ∀ j, starEach (e :: es) (F.X j).env = (false, eval e (F.X j).env) :: starEach es (F.X j).env := by intro _; rfl) : EA M F (e :: es) (aCons φ ψ) := by
  obtain ⟨t, p, a⟩ := h1
  obtain ⟨u, p2, b⟩ := h2
  refine ⟨_, fun j => pa_cons (p j) (p2 j) (hs j), fun s σ G H R Q rel h q => ?_⟩
  refine a s σ G H _ _ rel h fun d s1 v G1 H1 h1 r1 e1 hv => ?_
  exact b s1 σ G1 H1 _ _ r1 h1 fun ds s2 vs G2 H2 h2 r2 e2 hvs => q _ _ _ _ _ h2 r2 (e1.tr e2) (.cons (Vd.mono e2.ex hv) hvs)
/-- new tuples, new lists -/
@[simp] def dTup (ψ : DA) : DE := fun s R => ψ s fun ds s1 => ds.length ≤ 10000 ∧ R (.tup ds) s1
theorem e_tup {es : List Expr} {x1 pos} {ψ : DA} (h : EA M F es ψ) : ED M F (.Tuple es x1 pos) (dTup ψ) := by
  obtain ⟨t, p, a⟩ := h
  refine ⟨_, fun j => pe_tup (p j), fun s σ G H R Q rel h q => ?_⟩
  refine a s σ G H _ _ rel h fun ds s1 vs G1 H1 h1 r1 e1 hvs => ?_
  refine ⟨by rw [hvs.len, sizeLine_eq]; have := h1.1; omega, fun x hx => ?_⟩
  have eg := ex_new (o := .tup vs) (ex_none r1.ex hx)
  exact q _ _ _ _ _ h1.2 (r1.new hx) (e1.tr (.new r1 hx)) (.tup upd_at (Vds.mono eg hvs))
theorem Rel.fresh {s : S} {σ : L2.St} {G H : Hp} {a : Addr} (R : Rel M s σ G H) (ha : H a = none) : G a = none ∧ M.H0 a = none ∧ OwnOk M a ∧ ∀ (i : Nat) (es : OD), s.sl[i]? = some (.own es) → σ[i]? ≠ some (some (.ref a)) := by
  refine ⟨ex_none R.ex ha, ?_, ⟨fun p L e => (R.pen p L e).1.ne ha, R.tab.ne fun ps e => by rw [ha] at e; cases e⟩, fun i es h e => ?_⟩
  · cases q : M.H0 a with
    | none => rfl
    | some o =>
      have hp : Fr0 M a := ⟨fun p L e => ((R.pen p L e).1.ne ha).1, R.tab.ne fun ps e => by rw [ha] at e; cases e⟩
      have := (R.fr a (by rw [q]; exact fun z => nomatch z) hp).1
      rw [ha, q] at this
      cases this
  · obtain ⟨b, vs, e2, h3, _⟩ := R.getO h
    rw [e] at e2
    cases e2
    rw [ha] at h3
    cases h3
@[simp] def lLst (ψ : DA) : DA := fun s R => ψ s fun ds s1 => ds.length ≤ 10000 ∧ R ds s1
theorem l_lst {es : List Expr} {pos} {ψ : DA} (h : EA M F es ψ) : EL M F (.List es pos) (lLst ψ) := by
  obtain ⟨t, p, a⟩ := h
  refine ⟨_, fun j => pe_lst (p j), fun s σ G H R Q rel h q => ?_⟩
  refine a s σ G H _ _ rel h fun ds s1 vs G1 H1 h1 r1 e1 hvs => ?_
  refine ⟨by rw [hvs.len, sizeLine_eq]; have := h1.1; omega, fun x hx => ?_⟩
  obtain ⟨f1, f2, f3, f4⟩ := r1.fresh hx
  exact q _ _ _ _ _ _ h1.2 (r1.lay hx) (e1.tr (.lay hx)) hvs (e1.none rel r1 hx) upd_at f1 f2 f3 f4
/-- a new list that is kept for good -/
@[simp] def dFz (ψ : DA) : DE := fun s R => ψ s fun ds s1 => R (.lst ds) s1
theorem Rel.fix {s : S} {σ : L2.St} {G H : Hp} {a : Addr} {vs : List V} (R : Rel M s σ G H) (ha : H a = some (.lst vs)) (g : G a = none) (m : M.H0 a = none) (np : OwnOk M a) (no : ∀ (i : Nat) (es : OD), s.sl[i]? = some (.own es) → σ[i]? ≠ some (some (.ref a))) :
    Rel M s σ (upd G a (.lst vs)) H := by
  refine ⟨ex_fix' R.ex ha, fun b hb hn => ?_, fun p L e => ?_, ⟨tabs_keep R.tab.1 (fun _ _ e => e) (ex_new g), fun q hq => (upd_ne fun z => np.2 (by rw [← z]; exact hq)).trans (R.tab.2 q hq)⟩, R.len, fun i x ov h1 h2 => ?_, R.inj⟩
  · have ne : b ≠ a := fun z => hb (by rw [z]; exact m)
    exact ⟨(R.fr b hb hn).1, (upd_ne ne).trans (R.fr b hb hn).2⟩
  · exact ⟨(R.pen p L e).1, (upd_ne (np.1 p L e).1.symm).trans (R.pen p L e).2⟩
  · have h := R.sl i x ov h1 h2
    cases x with
    | no => exact h
    | d x =>
      obtain ⟨v, h2, h3⟩ := h
      exact ⟨v, h2, Vd.mono (ex_new g) h3⟩
    | own ds =>
      obtain ⟨b, us, k1, k2, k3, k4, k5, k6⟩ := h
      have ne : b ≠ a := fun z => no i ds h1 (by rw [h2, k1, z])
      exact ⟨b, us, k1, k2, k3.mono (ex_new g), (upd_ne ne).trans k4, k5, k6⟩
    | pen => exact h
theorem e_fz {e : Expr} {ψ : DA} (h : EL M F e ψ) : ED M F e (dFz ψ) := by
  obtain ⟨t, p, a⟩ := h
  refine ⟨t, p, fun s σ G H R Q rel h q => ?_⟩
  refine a s σ G H _ _ rel h fun ds s1 x vs G1 H1 h1 r1 e1 hvs hn hx f1 f2 f3 f4 => ?_
  have eg := ex_new (o := .lst vs) f1
  exact q _ _ _ _ _ h1 (r1.fix hx f1 f2 f3 f4) ⟨e1.ex.tr eg, fun b hb ho => ⟨(e1.old b hb ho).1, (upd_ne fun z => hb (by rw [z]; exact hn)).trans (e1.old b hb ho).2⟩, e1.own⟩ (.lst upd_at (Vds.mono eg hvs))
/-! ### operators -/
/-- what an operation does to data -/
abbrev DO := D → D → (D → Prop) → Prop
def OSound (r : R2) (ρ : DO) : Prop := ∀ (G H : Hp) (x y : V) (a b : D) (R : D → Prop) (Q : VK), Ex G H → Vd G x a → Vd G y b → ρ a b R →
  (∀ d v, R d → Vd G v d → Q v H) → (∀ d u p o, R d → H p = none → (∀ G', Ex G G' → G' p = some o → Vd G' (.ref p) d) → u = upd H p o → Q (.ref p) u) → r x y H Q
@[simp] def oI (C : Int → Int → Prop) (g : Int → Int → D) : DO := fun a b R => match a, b with
  | .int i, .int j => C i j ∧ R (g i j)
  | _, _ => False
theorem o_I {C : Int → Int → Prop} {g : Int → Int → V} {g' : Int → Int → D} (hg : ∀ i j G, Vd G (g i j) (g' i j)) : OSound (rI C g) (oI C g') := by
  intro G H x y a b R Q e hx hy h q _
  unfold oI at h
  split at h
  · rename_i i j
    cases hx
    cases hy
    exact ⟨i, j, rfl, rfl, h.1, q _ _ h.2 (hg i j G)⟩
  · exact h.elim
@[simp] def oI0 (g : Int → Int → D) : DO := fun a b R => match a, b with
  | .int i, .int j => R (g i j)
  | _, _ => False
theorem o_I0 {g : Int → Int → V} {g' : Int → Int → D} (hg : ∀ i j G, Vd G (g i j) (g' i j)) : OSound (rI0 g) (oI0 g') := by
  intro G H x y a b R Q e hx hy h q _
  unfold oI0 at h
  split at h
  · rename_i i j
    cases hx
    cases hy
    exact ⟨i, j, rfl, rfl, q _ _ h (hg i j G)⟩
  · exact h.elim
@[simp] def dOp (ρ : DO) (φ ψ : DE) : DE := fun s R => φ s fun a s1 => ψ s1 fun b s2 => ρ a b fun d => R d s2
theorem op_sound {t u : TE} {r : R2} {ρ : DO} {φ ψ : DE} (ho : OSound r ρ) (a : ESound M t φ) (b : ESound M u ψ) : ESound M (tOp r t u) (dOp ρ φ ψ) := by
  intro s σ G H R Q rel h q
  refine a s σ G H _ _ rel h fun d s1 v G1 H1 h1 r1 e1 hv => ?_
  refine b s1 σ G1 H1 _ _ r1 h1 fun d2 s2 v2 G2 H2 h2 r2 e2 hv2 => ?_
  refine ho G2 H2 v v2 d d2 _ _ r2.ex (Vd.mono e2.ex hv) hv2 h2 (fun x z hR hz => q _ _ _ _ _ hR r2 (e1.tr e2) hz) fun x u p o hR hp hz hu => ?_
  subst hu
  have eg := ex_new (o := o) (ex_none r2.ex hp)
  exact q _ _ _ _ _ hR (r2.new hp) (e1.tr (e2.tr (.new r2 hp))) (hz _ eg upd_at)
theorem e_op {op : Operator} {x y : Expr} {pos} {r : R2} {ρ : DO} {φ ψ : DE} (hr : ∀ j, OpR (F.X j) (binaryOp op) r) (ho : OSound r ρ) (h1 : ED M F x φ) (h2 : ED M F y ψ) : ED M F (.BinOp x op y pos) (dOp ρ φ ψ) := by
  obtain ⟨t, p, a⟩ := h1
  obtain ⟨u, p2, b⟩ := h2
  exact ⟨_, fun j => pe_op (hr j) (p j) (p2 j), op_sound ho a b⟩
theorem e_add {x y : Expr} {pos} {φ ψ : DE} (h1 : ED M F x φ) (h2 : ED M F y ψ) : ED M F (.BinOp x .Add y pos) (dOp (oI0 fun i j => .int (i + j)) φ ψ) := e_op (fun _ => op_add) (o_I0 fun _ _ _ => .int _) h1 h2
theorem e_sub {x y : Expr} {pos} {φ ψ : DE} (h1 : ED M F x φ) (h2 : ED M F y ψ) : ED M F (.BinOp x .Sub y pos) (dOp (oI0 fun i j => .int (i - j)) φ ψ) := e_op (fun _ => op_sub) (o_I0 fun _ _ _ => .int _) h1 h2
theorem e_mul {x y : Expr} {pos} {φ ψ : DE} (h1 : ED M F x φ) (h2 : ED M F y ψ) : ED M F (.BinOp x .Mult y pos) (dOp (oI CMul fun i j => .int (i * j)) φ ψ) := e_op (fun _ => op_mul) (o_I fun _ _ _ => .int _) h1 h2
theorem e_fdiv {x y : Expr} {pos} {φ ψ : DE} (h1 : ED M F x φ) (h2 : ED M F y ψ) : ED M F (.BinOp x .FloorDiv y pos) (dOp (oI CDiv fun i j => .int (i / j)) φ ψ) := e_op (fun _ => op_fdiv) (o_I fun _ _ _ => .int _) h1 h2
theorem e_mod {x y : Expr} {pos} {φ ψ : DE} (h1 : ED M F x φ) (h2 : ED M F y ψ) : ED M F (.BinOp x .Mod y pos) (dOp (oI (fun _ j => 0 < j) fun i j => .int (i % j)) φ ψ) := e_op (fun _ => op_mod) (o_I fun _ _ _ => .int _) h1 h2
/-! ### tests -/
theorem t_cmp {op : CmpOp} {x y : Expr} {pos} {r : R2} {ρ : DO} {φ ψ : DE} (hr : ∀ j, OpR (F.X j) (compareOp op) r) (ho : OSound r ρ) (h1 : ED M F x φ) (h2 : ED M F y ψ) (hm : behindInMarks op y = false) :
    ET M F (.Compare x [op] [y] pos) (fun s R => dOp ρ φ ψ s fun d s' => ∃ b, d = .bl b ∧ R b s') := by
  obtain ⟨t, p, a⟩ := h1
  obtain ⟨u, p2, b⟩ := h2
  refine ⟨_, fun j => pt_cmpR (hr j) (p j) (p2 j) hm, fun s σ G H R Q rel h q => ?_⟩
  refine op_sound ho a b s σ G H _ _ rel h fun d s' v G' H' h' r' e' hv => ?_
  obtain ⟨c, rfl, h'⟩ := h'
  cases hv
  exact ⟨c, rfl, q _ _ _ _ h' r' e'⟩
theorem e_cmp {op : CmpOp} {x y : Expr} {pos} {r : R2} {ρ : DO} {φ ψ : DE} (hr : ∀ j, OpR (F.X j) (compareOp op) r) (ho : OSound r ρ) (h1 : ED M F x φ) (h2 : ED M F y ψ) (hm : behindInMarks op y = false) : ED M F (.Compare x [op] [y] pos) (dOp ρ φ ψ) := by
  obtain ⟨t, p, a⟩ := h1
  obtain ⟨u, p2, b⟩ := h2
  exact ⟨_, fun j => pe_cmpR (hr j) (p j) (p2 j) hm, op_sound ho a b⟩
@[simp] def dIf (τ : DT) (φ ψ : DE) : DE := fun s R => τ s fun b s1 => if b = true then φ s1 R else ψ s1 R
theorem e_if {c x y : Expr} {pos} {τ : DT} {φ ψ : DE} (hc : ET M F c τ) (h1 : ED M F x φ) (h2 : ED M F y ψ) : ED M F (.IfExp c x y pos) (dIf τ φ ψ) := by
  obtain ⟨t, p, a⟩ := h1
  obtain ⟨u, p2, b⟩ := h2
  obtain ⟨v, p3, c⟩ := hc
  refine ⟨_, fun j => pe_ifExp (p3 j) (p j) (p2 j), fun s σ G H R Q rel h q => ?_⟩
  refine c s σ G H _ _ rel h fun d s1 G1 H1 h1 r1 e1 => ?_
  cases d with
  | true => exact a s1 σ G1 H1 _ _ r1 h1 fun d s2 v G2 H2 h2 r2 e2 hv => q _ _ _ _ _ h2 r2 (e1.tr e2) hv
  | false => exact b s1 σ G1 H1 _ _ r1 h1 fun d s2 v G2 H2 h2 r2 e2 hv => q _ _ _ _ _ h2 r2 (e1.tr e2) hv
end
end DL
namespace DL
open PySem PySem.Spec PyProof.Rows L2
/-! ### statements -/
structure DEn where
  nx : S → Prop
  rt : D → S → Prop
  bk : S → Prop := fun _ => False
  ct : S → Prop := fun _ => False
abbrev DS := S → DEn → Prop
structure EndsOk (M : Cm) (G0 : Hp) (E : DEn) (Dn : Ends) : Prop where
  nx : ∀ s σ G H, E.nx s → Rel M s σ G H → Ex G0 G → Dn.nx σ H
  rt : ∀ d s σ v G H, E.rt d s → Rel M s σ G H → Ex G0 G → Vd G v d → Dn.rt v H
  bk : ∀ s σ G H, E.bk s → Rel M s σ G H → Ex G0 G → Dn.bk σ H
  ct : ∀ s σ G H, E.ct s → Rel M s σ G H → Ex G0 G → Dn.ct σ H
theorem EndsOk.up {M : Cm} {G0 G1 : Hp} {E : DEn} {Dn : Ends} (e : EndsOk M G0 E Dn) (x : Ex G0 G1) : EndsOk M G1 E Dn :=
  ⟨fun s σ G H h r y => e.nx s σ G H h r (x.tr y), fun d s σ v G H h r y => e.rt d s σ v G H h r (x.tr y), fun s σ G H h r y => e.bk s σ G H h r (x.tr y), fun s σ G H h r y => e.ct s σ G H h r (x.tr y)⟩
def SSound (M : Cm) (t : TS) (ψ : DS) : Prop := ∀ (s : S) (σ : L2.St) (G H : Hp) (E : DEn) (Dn : Ends), Rel M s σ G H → ψ s E → EndsOk M G E Dn → t Dn σ H
def GSound (M : Cm) (vs : List Nat) (g : TG) (γ : D → S → (S → Prop) → Prop) : Prop := ∀ (v : V) (d : D) (s : S) (σ : L2.St) (G H : Hp) (R : S → Prop) (Q : L2.St → Hp → Prop), Rel M s σ G H → Vd G v d → γ d s R → (∀ s' σ', R s' → Rel M s' σ' G H → σ'.length = σ.length → (∀ j, j ∉ vs → σ'[j]? = σ[j]?) → Q σ' H) → g v σ H Q
section
variable {P : Program} {w : World} {K : PySem.W.Frag} {mg : Str → Option Value} {base : Heap} {k : Nat} {M : Cm} {F : Fam P w K mg base k}
variable (M F) in
def SD (st : Stmt) (ψ : DS) : Prop := ∃ t, (∀ i, PS (F.X i) st t) ∧ SSound M t ψ
variable (M F) in
def SDs (st : List Stmt) (ψ : DS) : Prop := ∃ t, (∀ i, PSs (F.X i) st t) ∧ SSound M t ψ
variable (M F) in
def GD (vs : List Nat) (tg : Expr) (γ : D → S → (S → Prop) → Prop) : Prop := ∃ g, (∀ i, PG (F.X i) tg g) ∧ GSound M vs g γ
@[simp] def dNext : DS := fun s E => E.nx s
@[simp] def dSeq (ψ χ : DS) : DS := fun s E => ψ s { E with nx := fun s1 => χ s1 E }
theorem s_nil : SDs M F [] dNext := ⟨_, fun _ => pss_nil, fun s σ G H E Dn rel h e => e.nx _ _ _ _ h rel (Ex.rf G)⟩
theorem seq_sound {t u : TS} {ψ χ : DS} (a : SSound M t ψ) (b : SSound M u χ) : SSound M (tSeq t u) (dSeq ψ χ) := fun s σ G H E Dn rel h e =>
  a s σ G H _ _ rel h ⟨fun s1 σ1 G1 H1 h1 r1 x1 => b s1 σ1 G1 H1 _ _ r1 h1 (e.up x1), e.rt, e.bk, e.ct⟩
theorem s_cons {st : Stmt} {rest : List Stmt} {ψ χ : DS} (h1 : SD M F st ψ) (h2 : SDs M F rest χ) : SDs M F (st :: rest) (dSeq ψ χ) := by
  obtain ⟨t, p, a⟩ := h1
  obtain ⟨u, p2, b⟩ := h2
  exact ⟨_, fun j => pss_cons (p j) (p2 j), seq_sound a b⟩
theorem s_one {st : Stmt} {ψ : DS} (h1 : SD M F st ψ) : SDs M F [st] ψ := by
  obtain ⟨t, p, a⟩ := h1
  exact ⟨t, fun j => pss_one (p j), a⟩
/-- name = value -/
@[simp] def dSet (i : Nat) (φ : DE) : DS := fun s E => φ s fun d s1 => E.nx (s1.set i (.d d))
theorem s_set {i : Nat} {st : Stmt} {e : Expr} {φ : DE} (he : ED M F e φ) (hs : ∀ t : TE, (∀ j, PE (F.X j) e t) → ∀ j, PS (F.X j) st (tAsg t (gName i))) : SD M F st (dSet i φ) := by
  obtain ⟨t, p, a⟩ := he
  refine ⟨_, hs t p, fun s σ G H E Dn rel h e => ?_⟩
  exact a s σ G H _ _ rel h fun d s1 v G1 H1 h1 r1 g1 hv => e.nx _ _ _ _ h1 (r1.setD hv) g1.ex
/-- name = a list of one's own -/
@[simp] def dOwn (i : Nat) (φ : DA) : DS := fun s E => φ s fun ds s1 => E.nx (s1.set i (.own (.l ds)))
theorem s_own {i : Nat} {st : Stmt} {e : Expr} {φ : DA} (he : EL M F e φ) (hs : ∀ t : TE, (∀ j, PE (F.X j) e t) → ∀ j, PS (F.X j) st (tAsg t (gName i))) : SD M F st (dOwn i φ) := by
  obtain ⟨t, p, a⟩ := he
  refine ⟨_, hs t p, fun s σ G H E Dn rel h e => ?_⟩
  refine a s σ G H _ _ rel h fun ds s1 x vs G1 H1 h1 r1 g1 hvs hn hx f1 f2 f3 f4 => ?_
  refine e.nx _ _ G1 _ h1 (r1.set ⟨x, _, rfl, hx, ⟨vs, rfl, hvs⟩, f1, f2, f3⟩ fun es b j fs e1 e2 nj hj => ?_) g1.ex
  cases e2
  exact f4 j fs hj
@[simp] def dRet (φ : DE) : DS := fun s E => φ s E.rt
theorem s_ret {e : Expr} {pos} {φ : DE} (he : ED M F e φ) : SD M F (.Return (some e) pos) (dRet φ) := by
  obtain ⟨t, p, a⟩ := he
  exact ⟨_, fun j => ps_ret (p j), fun s σ G H E Dn rel h e => a s σ G H _ _ rel h fun d s1 v G1 H1 h1 r1 g1 hv => e.rt _ _ _ _ _ _ h1 r1 g1.ex hv⟩
@[simp] def dIfS (τ : DT) (ψ χ : DS) : DS := fun s E => τ s fun b s1 => if b = true then ψ s1 E else χ s1 E
theorem s_if {c : Expr} {xs ys : List Stmt} {pos} {τ : DT} {ψ χ : DS} (hc : ET M F c τ) (h1 : SDs M F xs ψ) (h2 : SDs M F ys χ) : SD M F (.If c xs ys pos) (dIfS τ ψ χ) := by
  obtain ⟨t, p, a⟩ := h1
  obtain ⟨u, p2, b⟩ := h2
  obtain ⟨v, p3, c⟩ := hc
  refine ⟨_, fun j => ps_if (p3 j) (p j) (p2 j), fun s σ G H E Dn rel h e => ?_⟩
  refine c s σ G H _ _ rel h fun d s1 G1 H1 h1 r1 g1 => ?_
  cases d with
  | true => exact a s1 σ G1 H1 _ _ r1 h1 (e.up g1.ex)
  | false => exact b s1 σ G1 H1 _ _ r1 h1 (e.up g1.ex)
@[simp] def dExpr (φ : DE) : DS := fun s E => φ s fun _ s1 => E.nx s1
theorem s_expr {e : Expr} {pos} {φ : DE} (he : ED M F e φ) (hs : ∀ j, swapsWith e none pos.line (F.X j).env = pure false := by intro _; rfl) : SD M F (.Expr e pos) (dExpr φ) := by
  obtain ⟨t, p, a⟩ := he
  exact ⟨_, fun j => ps_expr (p j) (hs j), fun s σ G H E Dn rel h e => a s σ G H _ _ rel h fun d s1 v G1 H1 h1 r1 g1 hv => e.nx _ _ _ _ h1 r1 g1.ex⟩
theorem s_cont {pos} : SD M F (.Continue pos) (fun s E => E.ct s) := ⟨fun D σ H => D.ct σ H, fun j => ⟨fun pins s σ H D I h => wpAny_Continue ⟨σ, H, I, h⟩⟩, fun s σ G H E Dn rel h e => e.ct _ _ _ _ h rel (Ex.rf G)⟩
theorem s_break {pos} : SD M F (.Break pos) (fun s E => E.bk s) := ⟨fun D σ H => D.bk σ H, fun j => ⟨fun pins s σ H D I h => wpAny_Break ⟨σ, H, I, h⟩⟩, fun s σ G H E Dn rel h e => e.bk _ _ _ _ h rel (Ex.rf G)⟩
/-! ### targets -/
theorem g_name (i : Nat) {tg : Expr} (h : ∀ j, PG (F.X j) tg (gName i)) : GD M F [i] tg (fun d s R => R (s.set i (.d d))) := ⟨_, h, fun v d s σ G H R Q rel hv h q => q _ _ h (rel.setD hv) (by simp) fun j hj => by
  rw [List.getElem?_set, if_neg fun z => hj (by simp [z])]⟩
def GsSound (M : Cm) (vs : List Nat) (g : TGs) (γ : List D → S → (S → Prop) → Prop) : Prop := ∀ (us : List V) (ds : List D) (s : S) (σ : L2.St) (G H : Hp) (R : S → Prop) (Q : L2.St → Hp → Prop), Rel M s σ G H → Vds G us ds → γ ds s R → (∀ s' σ', R s' → Rel M s' σ' G H → σ'.length = σ.length → (∀ j, j ∉ vs → σ'[j]? = σ[j]?) → Q σ' H) → g us σ H Q
variable (M F) in
def GsD (vs : List Nat) (tgs : List Expr) (γ : List D → S → (S → Prop) → Prop) : Prop := ∃ g, (∀ i, PGs (F.X i) tgs g) ∧ GsSound M vs g γ
@[simp] def gsN : List D → S → (S → Prop) → Prop := fun ds s R => match ds with
  | [] => R s
  | _ => False
@[simp] def gsC (γ : D → S → (S → Prop) → Prop) (δ : List D → S → (S → Prop) → Prop) : List D → S → (S → Prop) → Prop := fun ds s R => match ds with
  | d :: ds => γ d s fun s1 => δ ds s1 R
  | _ => False
theorem gs_nil : GsD M F [] [] gsN := ⟨_, fun _ => pgs_nil, fun us ds s σ G H R Q rel hv h q => by
  unfold gsN at h
  split at h
  · cases hv
    exact ⟨rfl, q _ _ h rel rfl fun _ _ => rfl⟩
  · exact h.elim⟩
theorem gs_cons {vs ws : List Nat} {e : Expr} {es : List Expr} {γ : D → S → (S → Prop) → Prop} {δ : List D → S → (S → Prop) → Prop} (h1 : GD M F vs e γ) (h2 : GsD M F ws es δ)
    (hs : ∀ j, (assignEach (e :: es) (F.X j).env).map (·.2) = assign e (F.X j).env :: (assignEach es (F.X j).env).map (·.2) := by intro _; rfl) : GsD M F (vs ++ ws) (e :: es) (gsC γ δ) := by
  obtain ⟨t, p, a⟩ := h1
  obtain ⟨u, p2, b⟩ := h2
  refine ⟨_, fun j => pgs_cons (p j) (p2 j) (hs j), fun us ds s σ G H R Q rel hv h q => ?_⟩
  unfold gsC at h
  split at h
  · cases hv with
    | cons v1 v2 =>
      refine ⟨_, _, rfl, a _ _ s σ G H _ _ rel v1 h fun s1 σ1 h1 r1 l1 k1 => ?_⟩
      exact b _ _ s1 σ1 G H _ _ r1 v2 h1 fun s2 σ2 h2 r2 l2 k2 => q _ _ h2 r2 (l2.trans l1) fun j hj => by
        rw [List.mem_append] at hj
        exact (k2 j fun z => hj (.inr z)).trans (k1 j fun z => hj (.inl z))
  · exact h.elim
@[simp] def gTp (n : Nat) (δ : List D → S → (S → Prop) → Prop) : D → S → (S → Prop) → Prop := fun d s R => match d with
  | .tup ds => ds.length = n ∧ δ ds s R
  | _ => False
theorem g_tup {vs : List Nat} {es : List Expr} {kk : Nat} {pos : Pos} {δ : List D → S → (S → Prop) → Prop} (n : Nat) (h : GsD M F vs es δ) (hn : ∀ j, (assignEach es (F.X j).env).length = n := by intro _; rfl) (hst : ∀ j, (assignEach es (F.X j).env).findIdx? (·.1) = none := by intro _; rfl) :
    GD M F vs (.Tuple es kk pos) (gTp n δ) := by
  obtain ⟨t, p, a⟩ := h
  refine ⟨gTup K n t, fun j => by have := pg_tup (k := kk) (pos := pos) (F.hc j) (p j) (hn j) (hst j); rw [F.hK j] at this; exact this, fun v d s σ G H R Q rel hv h q => ?_⟩
  unfold gTp at h
  split at h
  · cases hv with
    | @tup x us ds hx hvs => exact ⟨x, us, rfl, .inl (.inl (rel.ex _ _ hx)), by rw [hvs.len]; exact h.1, a _ _ s σ G H _ _ rel hvs h.2 q⟩
  · exact h.elim
/-! ### what a loop goes over -/
/-- J tells the values of ds, one after the other, while G stands; a pair may be laid for it -/
def Over (J : It) (G : Hp) (ds : List D) : Prop := ∀ G' H', Ex G G' → Ex G' H' → (∀ i, i < ds.length → J.go i H' ∧ ∀ x H'', J.yld i H' x H'' → ∃ d, ds[i]? = some d ∧ ((H'' = H' ∧ Vd G' x d) ∨ ∃ T o, H' T = none ∧ H'' = upd H' T o ∧ Vd (upd G' T o) x d)) ∧ J.stop ds.length H'
theorem Over.step {M : Cm} {J : It} {G G' H' : Hp} {ds : List D} {s : S} {σ : L2.St} (ov : Over J G ds) (x : Ex G G') (r : Rel M s σ G' H') {i : Nat} (hi : i < ds.length) : J.go i H' ∧ ∀ v H'', J.yld i H' v H'' → ∃ d G'', ds[i]? = some d ∧ Rel M s σ G'' H'' ∧ Vd G'' v d ∧ Ex G' G'' ∧ ∀ b, H' b ≠ none → H'' b = H' b ∧ G'' b = G' b := by
  obtain ⟨q1, q2⟩ := (ov G' H' x r.ex).1 i hi
  refine ⟨q1, fun v H'' y => ?_⟩
  obtain ⟨d, hd, ⟨rfl, hv⟩ | ⟨T, o, hT, rfl, hv⟩⟩ := q2 v H'' y
  · exact ⟨d, G', hd, r, hv, Ex.rf _, fun _ _ => ⟨rfl, rfl⟩⟩
  · exact ⟨d, upd G' T o, hd, r.new hT, hv, ex_new (ex_none r.ex hT), fun b hb => new_old hT b hb⟩
def ISound (M : Cm) (wi : TI) (φ : DA) : Prop := ∀ (s : S) (σ : L2.St) (G H : Hp) (R : List D → S → Prop) (Q : It → Hp → Prop), Rel M s σ G H → φ s R → (∀ ds s' J G' H', R ds s' → Rel M s' σ G' H' → Go M σ s G H s' G' H' → Over J G' ds → Q J H') → wi σ H Q
theorem vds_at {G : Hp} {vs : List V} {ds : List D} (h : Vds G vs ds) {i : Nat} (hi : i < ds.length) : ∃ d, ds[i]? = some d ∧ ∃ v, vs[i]? = some v ∧ Vd G v d := by
  obtain ⟨v, e, hv⟩ := h.get (List.getElem?_eq_getElem hi)
  exact ⟨ds[i], List.getElem?_eq_getElem hi, v, e, hv⟩
theorem over_list {G : Hp} {a : Addr} {vs : List V} {ds : List D} (ha : G a = some (.lst vs)) (hv : Vds G vs ds) : Over (Itl K a) G ds := by
  intro G' H' e e2
  have q : SqL K H' a vs := .inl (.inl (e2 _ _ (e _ _ ha)))
  refine ⟨fun i hi => ?_, vs, q, by rw [hv.len]; exact Nat.le_refl _⟩
  obtain ⟨d, hd, v, hv1, hv2⟩ := vds_at hv hi
  refine ⟨⟨vs, v, q, hv1⟩, fun x H'' y => ⟨d, hd, .inl ?_⟩⟩
  obtain ⟨e1, y⟩ := y
  have := y vs q
  rw [hv1] at this
  cases this
  exact ⟨e1, Vd.mono e hv2⟩
theorem over_tup {G : Hp} {a : Addr} {vs : List V} {ds : List D} (ha : G a = some (.tup vs)) (hv : Vds G vs ds) : Over (Itt K a) G ds := by
  intro G' H' e e2
  have q : SqT K H' a vs := .inl (.inl (e2 _ _ (e _ _ ha)))
  refine ⟨fun i hi => ?_, vs, q, by rw [hv.len]; exact Nat.le_refl _⟩
  obtain ⟨d, hd, v, hv1, hv2⟩ := vds_at hv hi
  refine ⟨⟨vs, v, q, hv1⟩, fun x H'' y => ⟨d, hd, .inl ?_⟩⟩
  obtain ⟨e1, y⟩ := y
  have := y vs q
  rw [hv1] at this
  cases this
  exact ⟨e1, Vd.mono e hv2⟩
@[simp] def dLstOf (φ : DE) : DA := fun s R => φ s fun d s1 => match d with
  | .lst ds => R ds s1
  | _ => False
@[simp] def dTupOf (φ : DE) : DA := fun s R => φ s fun d s1 => match d with
  | .tup ds => R ds s1
  | _ => False
theorem i_list {t : TE} {φ : DE} (a : ESound M t φ) : ISound M (iList K t) (dLstOf φ) := by
  intro s σ G H R Q rel h q
  refine a s σ G H _ _ rel h fun d s1 v G1 H1 h1 r1 g1 hv => ?_
  split at h1
  · cases hv with
    | @lst x vs ds hx hvs => exact ⟨x, rfl, ⟨vs, .inl (.inl (r1.ex _ _ hx))⟩, q _ _ _ _ _ h1 r1 g1 (over_list hx hvs)⟩
  · exact h1.elim
theorem i_tup {t : TE} {φ : DE} (a : ESound M t φ) : ISound M (iTup K t) (dTupOf φ) := by
  intro s σ G H R Q rel h q
  refine a s σ G H _ _ rel h fun d s1 v G1 H1 h1 r1 g1 hv => ?_
  split at h1
  · cases hv with
    | @tup x vs ds hx hvs => exact ⟨x, rfl, ⟨vs, .inl (.inl (r1.ex _ _ hx))⟩, q _ _ _ _ _ h1 r1 g1 (over_tup hx hvs)⟩
  · exact h1.elim
variable (M F) in
def ID (tg e : Expr) (φ : DA) : Prop := ∃ wi, (∀ j, PI (F.X j) tg e wi) ∧ ISound M wi φ
theorem id_list {tg e : Expr} {φ : DE} (h : ED M F e φ) : ID M F tg e (dLstOf φ) := by
  obtain ⟨t, p, a⟩ := h
  exact ⟨iList K t, fun j => by have := pi_list (tg := tg) (p j); rw [F.hK j] at this; exact this, i_list a⟩
theorem id_tup {tg e : Expr} {φ : DE} (h : ED M F e φ) : ID M F tg e (dTupOf φ) := by
  obtain ⟨t, p, a⟩ := h
  exact ⟨iTup K t, fun j => by have := pi_tup (tg := tg) (p j); rw [F.hK j] at this; exact this, i_tup a⟩
/-- range(n) -/
@[simp] def rgD (n : Nat) : List D := (List.range n).map fun i => .int (Int.ofNat i)
@[simp] def dRng (ψ : DA) : DA := fun s R => ψ s fun ds s1 => match ds with
  | [.int n] => (-10000 ≤ n ∧ n ≤ 10000) ∧ R (rgD n.toNat) s1
  | _ => False
theorem over_rng {G : Hp} {n : Nat} : Over (Itr 0 n) G (rgD n) := by
  intro G' H' e e2
  have hl : (rgD n).length = n := by simp [rgD]
  rw [hl]
  refine ⟨fun i hi => ⟨hi, fun x H'' y => ⟨.int (Int.ofNat i), ?_, .inl ?_⟩⟩, Nat.le_refl _⟩
  · unfold rgD
    rw [List.getElem?_map, List.getElem?_range hi]
    rfl
  · obtain ⟨y1, y2⟩ := y
    subst y1 y2
    refine ⟨rfl, ?_⟩
    have ee : (0 + (i : Int)) = Int.ofNat i := Int.zero_add _
    rw [ee]
    exact .int _
theorem id_rng {tg a : Expr} {p pos : Pos} {ψ : DA} (h : EA M F [a] ψ) (hg : ∀ j, Gl (F.X j) "range") (hm : mg "range" = none) (hs : ∀ j, starEach [a] (F.X j).env = [(false, eval a (F.X j).env)] := by intro _; rfl) : ID M F tg (.Call (.Name "range" p) [a] [] pos) (dRng ψ) := by
  obtain ⟨t, q, b⟩ := h
  refine ⟨_, fun j => pi_range1 (hg j) (by rw [F.hm j]; exact hm) (q j) (hs j), fun s σ G H R Q rel h q => ?_⟩
  refine b s σ G H _ _ rel h fun ds s1 vs G1 H1 h1 r1 g1 hvs => ?_
  split at h1
  · rename_i n
    cases hvs with
    | cons a1 a2 =>
      cases a1
      cases a2
      exact ⟨n, rfl, by have := h1.1; omega, by have := h1.1; omega, q _ _ _ _ _ h1.2 r1 g1 over_rng⟩
  · exact h1.elim
/-! ### for -/
@[simp] def dForL (γ : D → S → (S → Prop) → Prop) (ψ : DS) (E : DEn) : List D → S → Prop
  | [], s => E.nx s
  | x :: xs, s => γ x s fun s1 => ψ s1 { nx := dForL γ ψ E xs, rt := E.rt, bk := E.nx, ct := dForL γ ψ E xs }
@[simp] def dFor (φ : DA) (γ : D → S → (S → Prop) → Prop) (ψ : DS) : DS := fun s E => φ s fun ds s1 => dForL γ ψ E ds s1
theorem for_sound {wi : TI} {g : TG} {tb : TS} {φ : DA} {γ : D → S → (S → Prop) → Prop} {ψ : DS} {ws : List Nat} (hi : ISound M wi φ) (hg : GSound M ws g γ) (hb : SSound M tb ψ) : SSound M (tFor wi g tb) (dFor φ γ ψ) := by
  intro s σ G H E Dn rel h e
  refine hi s σ G H _ _ rel h fun ds s1 J G1 H1 h1 r1 g1 ov => ?_
  refine ⟨fun i m σ H' => m = ds.length - i ∧ i ≤ ds.length ∧ ∃ s2 G2, Rel M s2 σ G2 H' ∧ Ex G1 G2 ∧ dForL γ ψ E (ds.drop i) s2, ⟨_, rfl, Nat.zero_le _, s1, G1, r1, Ex.rf G1, h1⟩, ?_⟩
  rintro i m σ' H' ⟨rfl, hi, s2, G2, r2, x2, h2⟩
  by_cases hlt : i < ds.length
  · obtain ⟨q1, q2⟩ := ov.step x2 r2 hlt
    refine .inr ⟨q1, fun σ' H' => ∃ s3 G3, Rel M s3 σ' G3 H' ∧ Ex G1 G3 ∧ dForL γ ψ E (ds.drop (i + 1)) s3, fun σ' H' ⟨s3, G3, r3, x3, h3⟩ => ⟨ds.length - (i + 1), by omega, rfl, hlt, s3, G3, r3, x3, h3⟩, fun x H'' y => ?_⟩
    obtain ⟨d, G2', hd, r2', hv, x2', _⟩ := q2 x H'' y
    have x2 := x2.tr x2'
    rw [List.drop_eq_getElem_cons hlt] at h2
    have ed : ds[i] = d := by
      rw [List.getElem?_eq_getElem hlt] at hd
      exact Option.some.inj hd
    rw [ed] at h2
    refine hg x d s2 σ' G2' _ _ _ r2' hv h2 fun s3 σ3 h3 r3 _ _ => ?_
    exact hb s3 σ3 G2' _ _ _ r3 h3 ⟨fun s4 σ4 G4 H4 h4 r4 x4 => ⟨s4, G4, r4, x2.tr x4, h4⟩, fun d s4 σ4 v G4 H4 h4 r4 x4 hv4 => e.rt _ _ _ _ _ _ h4 r4 (g1.ex.tr (x2.tr x4)) hv4,
      fun s4 σ4 G4 H4 h4 r4 x4 => e.nx _ _ _ _ h4 r4 (g1.ex.tr (x2.tr x4)), fun s4 σ4 G4 H4 h4 r4 x4 => ⟨s4, G4, r4, x2.tr x4, h4⟩⟩
  · have ei : i = ds.length := by omega
    subst ei
    rw [List.drop_length] at h2
    exact .inl ⟨(ov G2 H' x2 r2.ex).2, e.nx _ _ _ _ h2 r2 (g1.ex.tr x2)⟩
theorem s_for {vs : List Nat} {tg iter : Expr} {body : List Stmt} {pos : Pos} {φ : DA} {γ : D → S → (S → Prop) → Prop} {ψ : DS} (hp : ∀ j, PassesOwn (model (F.X j).prog (F.X j).w) (F.X j).A (F.X j).env (F.X j).xe) (hi : ID M F tg iter φ) (hg : GD M F vs tg γ) (hb : SDs M F body ψ)
    (hs : ∀ j x, foldedSetIterable iter (F.X j).env x = pure x := by intro _ _; rfl) : SD M F (.For tg iter body [] pos) (dFor φ γ ψ) := by
  obtain ⟨wi, p1, a⟩ := hi
  obtain ⟨g, p2, b⟩ := hg
  obtain ⟨tb, p3, c⟩ := hb
  exact ⟨_, fun j => ps_for (hp j) (F.hc j) (p1 j) (p2 j) (p3 j) (hs j), for_sound a b c⟩
end
end DL
namespace DL
open PySem PySem.Spec PyProof.Rows L2
/-! ### comprehensions -/
@[simp] def swipe (l : List Slot) : List Nat → List Slot
  | [] => l
  | v :: vs => (swipe l vs).set v .no
@[simp] def safeL (l : List Slot) (vs : List Nat) : Bool := vs.all fun i => match l[i]? with
  | some .no => true
  | some (.d _) => true
  | _ => false
theorem swipe_len (l : List Slot) : ∀ vs : List Nat, (swipe l vs).length = l.length
  | [] => rfl
  | v :: vs => by
    show ((swipe l vs).set v .no).length = _
    rw [List.length_set, swipe_len l vs]
theorem swipe_off (l : List Slot) : ∀ (vs : List Nat) (j : Nat), j ∉ vs → (swipe l vs)[j]? = l[j]?
  | [], _, _ => rfl
  | v :: vs, j, h => by
    show ((swipe l vs).set v .no)[j]? = _
    rw [List.getElem?_set, if_neg fun z => h (by rw [z]; exact List.mem_cons_self), swipe_off l vs j fun z => h (List.mem_cons_of_mem _ z)]
theorem wipe_off (l : L2.St) : ∀ (vs : List Nat) (j : Nat), j ∉ vs → (wipe l vs)[j]? = l[j]?
  | [], _, _ => rfl
  | v :: vs, j, h => by
    show ((wipe l vs).set v none)[j]? = _
    rw [List.getElem?_set, if_neg fun z => h (by rw [z]; exact List.mem_cons_self), wipe_off l vs j fun z => h (List.mem_cons_of_mem _ z)]
theorem wipe_on (l : L2.St) : ∀ (vs : List Nat) (j : Nat), j ∈ vs → j < l.length → (wipe l vs)[j]? = some none
  | v :: vs, j, h, hl => by
    show ((wipe l vs).set v none)[j]? = _
    rw [List.getElem?_set]
    by_cases e : v = j
    · rw [if_pos e, if_pos (by rw [wipe_length, e]; exact hl)]
    · rw [if_neg e]
      rcases List.mem_cons.mp h with z | z
      · exact absurd z.symm e
      · exact wipe_on l vs j z hl
theorem wipe_eq {a b : L2.St} {vs : List Nat} (hl : a.length = b.length) (h : ∀ j, j ∉ vs → a[j]? = b[j]?) : wipe a vs = wipe b vs := by
  refine List.ext_getElem? fun j => ?_
  by_cases hj : j ∈ vs
  · by_cases hl2 : j < a.length
    · rw [wipe_on a vs j hj hl2, wipe_on b vs j hj (by rw [← hl]; exact hl2)]
    · rw [List.getElem?_eq_none (by rw [wipe_length]; omega), List.getElem?_eq_none (by rw [wipe_length]; omega)]
  · rw [wipe_off a vs j hj, wipe_off b vs j hj, h j hj]
section
variable {M : Cm} {s : S} {σ : L2.St} {G H : Hp}
theorem Rel.wipe (R : Rel M s σ G H) : ∀ vs : List Nat, Rel M ⟨swipe s.sl vs, s.c⟩ (L2.wipe σ vs) G H
  | [] => R
  | v :: vs => (R.wipe vs).setN (i := v) (ov := none)
theorem safe_own {l : List Slot} {vs : List Nat} (h : safeL l vs = true) {i : Nat} {es : OD} (hi : l[i]? = some (.own es)) : i ∉ vs := fun z => by
  have := List.all_eq_true.mp h i z
  rw [hi] at this
  cases this
theorem Rel.back {s5 : S} {σ5 : L2.St} {G5 H5 : Hp} {vs : List Nat} (r : Rel M s σ G H) (r5 : Rel M s5 σ5 G5 H5) (hs : swipe s5.sl vs = swipe s.sl vs) (safe : safeL s.sl vs = true) (hl : σ5.length = σ.length) (ho : ∀ j, j ∉ vs → σ5[j]? = σ[j]?) (ex : Ex G G5) : Rel M ⟨s.sl, s5.c⟩ σ G5 H5 := by
  have off : ∀ j, j ∉ vs → s5.sl[j]? = s.sl[j]? := fun j hj => by rw [← swipe_off s5.sl vs j hj, hs, swipe_off s.sl vs j hj]
  refine ⟨r5.ex, r5.fr, r5.pen, r5.tab, r.len, fun i x ov h1 h2 => ?_, fun i j ds es a h1 h2 h3 h4 => ?_⟩
  · by_cases hi : i ∈ vs
    · have h1 : s.sl[i]? = some x := h1
      have sf := List.all_eq_true.mp safe i hi
      have k := r.sl i x ov h1 h2
      rw [h1] at sf
      cases x with
      | no => exact True.intro
      | d x =>
        obtain ⟨v, k1, k2⟩ := k
        exact ⟨v, k1, Vd.mono ex k2⟩
      | own ds => cases sf
      | pen => cases sf
    · exact r5.sl i x ov ((off i hi).trans h1) ((ho i hi).trans h2)
  · have n1 := safe_own safe h1
    have n2 := safe_own safe h2
    exact r5.inj i j ds es a ((off i n1).trans h1) ((off j n2).trans h2) ((ho i n1).trans h3) ((ho j n2).trans h4)
end
section
variable {P : Program} {w : World} {K : PySem.W.Frag} {mg : Str → Option Value} {base : Heap} {k : Nat} {M : Cm} {F : Fam P w K mg base k}
def Fam.blk (F : Fam P w K mg base k) (scope : Scope) : Fam P w K mg base k where
  ι := F.ι × Shared × Hp × Addr × List (Str × Addr) × List Addr
  X := fun q => (F.X q.1).blk q.2.1 q.2.2.1 scope (compEnvC scope q.2.2.2.2.1 q.2.2.2.1 (F.X q.1).env) q.2.2.2.2.2
  hP := fun q => F.hP q.1
  hw := fun q => F.hw q.1
  hK := fun q => F.hK q.1
  hm := fun q => F.hm q.1
  hb := fun q => F.hb q.1
  hr := fun q => F.hr q.1
  hG := fun q => F.hG q.1
  hc := fun q => F.hc q.1
  E := fun _ _ _ => False
  hx := fun q => by
    have h := passes_call (X := (F.X q.1).blk q.2.1 q.2.2.1 scope (compEnvC scope q.2.2.2.2.1 q.2.2.2.1 (F.X q.1).env) q.2.2.2.2.2) (E := fun _ _ _ => False) (W := fun _ _ _ _ => False) LamX.takes0 fun _ _ _ _ z => z
    rw [F.hP q.1, F.hw q.1] at h
    exact h
variable (M F) in
def ETs (ifs : List Expr) (τ : DT) : Prop := ∃ t, (∀ i, PTs (F.X i) ifs t) ∧ TSound M t τ
@[simp] def dYes : DT := fun s R => R true s
theorem ts_nil : ETs M F [] dYes := ⟨_, fun _ => pts_nil, fun s σ G H R Q rel h q => q _ _ _ _ h rel Go.rf⟩
theorem ts_one {c : Expr} {τ : DT} (h : ET M F c τ) : ETs M F [c] τ := by
  obtain ⟨t, p, a⟩ := h
  exact ⟨t, fun j => pts_one (p j), a⟩
@[simp] def lcL (vs : List Nat) (γ : D → S → (S → Prop) → Prop) (τ : DT) (ε : DE) (R : List D → S → Prop) (sl : List Slot) : List D → List D → Int → Prop
  | acc, [], c => R acc ⟨sl, c⟩
  | acc, x :: xs, c => γ x ⟨swipe sl vs, c⟩ fun s2 => safeL s2.sl vs = true ∧ swipe s2.sl vs = swipe sl vs ∧ τ s2 fun b s3 => s3.sl = s2.sl ∧
      if b = true then ε s3 fun y s4 => s4.sl = s2.sl ∧ acc.length < 10000 ∧ lcL vs γ τ ε R sl (acc ++ [y]) xs s4.c else lcL vs γ τ ε R sl acc xs s3.c
@[simp] def dLc (vs : List Nat) (φ : DA) (γ : D → S → (S → Prop) → Prop) (τ : DT) (ε : DE) : DA := fun s R => φ s fun ds s1 => safeL s1.sl vs = true ∧ lcL vs γ τ ε R s1.sl [] ds s1.c
theorem lc_sound {vs : List Nat} {wi : TI} {g : TG} {tt : TT} {te : TE} {φ : DA} {γ : D → S → (S → Prop) → Prop} {τ : DT} {ε : DE} (hi : ISound M wi φ) (hg : GSound M vs g γ) (ht : TSound M tt τ) (he : ESound M te ε) : LSound M (tLc wi g tt te vs) (dLc vs φ γ τ ε) := by
  intro s σ G H R Q rel h q
  refine hi s σ G H _ _ rel h fun ds s1 J G1 H1 h1 r1 g1 ov D hD => ?_
  obtain ⟨safe, h1⟩ := h1
  obtain ⟨f1, f2, f3, f4⟩ := r1.fresh hD
  refine ⟨fun i m H' => m = ds.length - i ∧ i ≤ ds.length ∧ ∃ c G2 acc vacc, Rel M ⟨s1.sl, c⟩ σ G2 H' ∧ Ex G1 G2 ∧ (∀ b, H1 b ≠ none → Out M s1 σ b → H' b = H1 b ∧ G2 b = G1 b) ∧ H' D = some (.lst vacc) ∧ Vds G2 vacc acc ∧ G2 D = none ∧ lcL vs γ τ ε R s1.sl acc (ds.drop i) c,
    ⟨_, rfl, Nat.zero_le _, s1.c, G1, [], [], r1.lay hD, Ex.rf G1, fun b hb _ => lay_old hD b hb, upd_at, .nil, f1, h1⟩, ?_⟩
  rintro i m H' ⟨rfl, hi, c, G2, acc, vacc, r2, x2, old, hD', hacc, gD, h2⟩
  by_cases hlt : i < ds.length
  · obtain ⟨q1, q2⟩ := ov.step x2 r2 hlt
    refine .inr ⟨q1, fun H' => ∃ c G2 acc vacc, Rel M ⟨s1.sl, c⟩ σ G2 H' ∧ Ex G1 G2 ∧ (∀ b, H1 b ≠ none → Out M s1 σ b → H' b = H1 b ∧ G2 b = G1 b) ∧ H' D = some (.lst vacc) ∧ Vds G2 vacc acc ∧ G2 D = none ∧ lcL vs γ τ ε R s1.sl acc (ds.drop (i + 1)) c,
      fun H' hh => ⟨ds.length - (i + 1), by omega, rfl, hlt, hh⟩, fun x H'' y => ?_⟩
    obtain ⟨d, G2', hd, r2', hv, x2', old'⟩ := q2 x H'' y
    have oldD := old' D (by rw [hD']; exact fun z => nomatch z)
    replace old : ∀ b, H1 b ≠ none → Out M s1 σ b → H'' b = H1 b ∧ G2' b = G1 b := fun b hb ho => by
      obtain ⟨e1, e2⟩ := old b hb ho
      obtain ⟨e3, e4⟩ := old' b (by rw [e1]; exact hb)
      exact ⟨e3.trans e1, e4.trans e2⟩
    replace hD' := oldD.1.trans hD'
    replace gD := oldD.2.trans gD
    replace hacc := Vds.mono x2' hacc
    replace x2 := x2.tr x2'
    clear old' oldD q2 r2
    have r2 := r2'
    clear r2' x2'
    rw [List.drop_eq_getElem_cons hlt] at h2
    have ed : ds[i] = d := by
      rw [List.getElem?_eq_getElem hlt] at hd
      exact Option.some.inj hd
    rw [ed] at h2
    have rw2 := r2.wipe vs
    refine hg x d _ _ G2' _ _ _ rw2 hv h2 fun s3 σ3 h3 r3 l3 k3 => ?_
    have l3' : σ3.length = σ.length := by rw [l3, wipe_length]
    have k3' : ∀ j, j ∉ vs → σ3[j]? = σ[j]? := fun j hj => (k3 j hj).trans (wipe_off σ vs j hj)
    obtain ⟨sf, sw, h3⟩ := h3
    -- nothing of one's own in s3 is D, or new
    have ow : ∀ (i : Nat) (es : OD), s3.sl[i]? = some (.own es) → s1.sl[i]? = some (.own es) ∧ σ3[i]? = σ[i]? := fun i es e => by
      have nv := safe_own sf e
      rw [← swipe_off s3.sl vs i nv, sw, swipe_off s1.sl vs i nv] at e
      exact ⟨e, k3' i nv⟩
    have outD : Out M s3 σ3 D := ⟨f3.fr, fun i es e z => by
      obtain ⟨e1, e2⟩ := ow i es e
      exact f4 i es e1 (e2.symm.trans z)⟩
    have outT : ∀ b, Out M s1 σ b → Out M s3 σ3 b := fun b hb => ⟨hb.1, fun i es e z => by
      obtain ⟨e1, e2⟩ := ow i es e
      exact hb.2 i es e1 (e2.symm.trans z)⟩
    refine ⟨wipe_eq l3' k3', ?_⟩
    refine ht s3 σ3 G2' _ _ _ r3 h3 fun b s4 G4 H4 h4 r4 g4 => ?_
    have D4 := g4.old D (by rw [hD']; exact fun z => nomatch z) outD
    have old4 : ∀ b, H1 b ≠ none → Out M s1 σ b → H4 b = H1 b ∧ G4 b = G1 b := fun b hb ho => by
      obtain ⟨e1, e2⟩ := old b hb ho
      obtain ⟨e3, e4⟩ := g4.old b (by rw [e1]; exact hb) (outT b ho)
      exact ⟨e3.trans e1, e4.trans e2⟩
    obtain ⟨s4e, h4⟩ := h4
    cases b with
    | false =>
      rw [if_neg (by decide)] at h4 ⊢
      exact ⟨s4.c, G4, acc, vacc, r2.back r4 (by rw [s4e]; exact sw) safe l3' k3' g4.ex, x2.tr g4.ex, old4, D4.1.trans hD', Vds.mono g4.ex hacc, D4.2.trans gD, h4⟩
    | true =>
      rw [if_pos rfl] at h4 ⊢
      refine he s4 σ3 G4 H4 _ _ r4 h4 fun y s5 v G5 H5 h5 r5 g5 hv5 => ?_
      obtain ⟨s5e, la, h5⟩ := h5
      have outD4 : Out M s4 σ3 D := ⟨outD.1, fun i es e => outD.2 i es (by rw [← s4e]; exact e)⟩
      have D5 := g5.old D (by rw [D4.1, hD']; exact fun z => nomatch z) outD4
      have D5H := D5.1.trans (D4.1.trans hD')
      have D5G := D5.2.trans (D4.2.trans gD)
      have e45 := g4.ex.tr g5.ex
      have r6 : Rel M ⟨s1.sl, s5.c⟩ σ G5 H5 := r2.back r5 (by rw [s5e]; exact sw) safe l3' k3' e45
      refine ⟨vacc, D5H, by rw [hacc.len, sizeLine_eq]; omega, s5.c, G5, acc ++ [y], vacc ++ [v], ?_, x2.tr e45, fun b hb ho => ?_, upd_at, (Vds.mono e45 hacc).snoc hv5, D5G, h5⟩
      · -- the new list is no part of the state
        refine ⟨ex_put r6.ex D5G, fun b hb hn => ?_, fun p L e => ?_, ⟨tabs_keep r6.tab.1 (fun b ps e => (upd_ne fun z => by
          rw [z, D5H] at e
          cases e).trans e) (Ex.rf _), r6.tab.2⟩, r6.len, fun i x ov e1 e2 => ?_, r6.inj⟩
        · have ne : b ≠ D := fun z => hb (by rw [z]; exact f2)
          exact ⟨(upd_ne ne).trans (r6.fr b hb hn).1, (r6.fr b hb hn).2⟩
        · exact ⟨(r6.pen p L e).1.put (f3.1 p L e).1 (f3.1 p L e).2, (r6.pen p L e).2⟩
        · have kk := r6.sl i x ov e1 e2
          cases x with
          | no => exact kk
          | d x => exact kk
          | own es =>
            obtain ⟨a, ws, w1, w2, w3⟩ := kk
            have ne : a ≠ D := fun z => f4 i es e1 (by rw [e2, w1, z])
            exact ⟨a, ws, w1, (upd_ne ne).trans w2, w3⟩
          | pen => exact kk
      · obtain ⟨e1, e2⟩ := old4 b hb ho
        obtain ⟨e3, e4⟩ := g5.old b (by rw [e1]; exact hb) ⟨ho.1, fun i es e z => (outT b ho).2 i es (by rw [← s4e]; exact e) z⟩
        have ne : b ≠ D := fun z => hb (by rw [z]; exact hD)
        exact ⟨(upd_ne ne).trans (e3.trans e1), e4.trans e2⟩
  · have ei : i = ds.length := by omega
    subst ei
    rw [List.drop_length] at h2
    exact .inl ⟨(ov G2 H' x2 r2.ex).2, q _ _ _ _ _ _ h2 r2 (g1.tr ⟨x2, old, fun _ => Iff.rfl⟩) hacc (g1.none rel r1 hD) hD' gD f2 f3 f4⟩
theorem l_lc {own : List (Str × Nat)} {tg iter elt : Expr} {ifs : List Expr} {scope : Scope} {pos : Pos} {φ : DA} {γ : D → S → (S → Prop) → Prop} {τ : DT} {ε : DE} (ok : ∀ j, BlkOk (F.X j).N (F.X j).env.scope scope own) (hN : ∀ j, (F.X j).N.Nodup)
    (hi : ID M F tg iter φ) (hg : GD M (F.blk scope) (own.map (·.2)) tg γ) (ht : ETs M (F.blk scope) ifs τ) (he : ED M (F.blk scope) elt ε) (hs : ∀ j x, foldedSetIterable iter (F.X j).env x = pure x := by intro _ _; rfl) :
    EL M F (.ListComp elt [⟨tg, iter, ifs, 0⟩] scope pos) (dLc (own.map (·.2)) φ γ τ ε) := by
  obtain ⟨wi, p1, a⟩ := hi
  obtain ⟨g, p2, b⟩ := hg
  obtain ⟨tt, p3, c⟩ := ht
  obtain ⟨te, p4, d⟩ := he
  exact ⟨_, fun j => pe_lc (F.hc j) (hN j) (p1 j) (ok j) (fun s H C cl fp => p2 (j, s, H, C, cl, fp)) (fun s H C cl fp => p3 (j, s, H, C, cl, fp)) (fun s H C cl fp => p4 (j, s, H, C, cl, fp)) (hs j), lc_sound a b c d⟩
end
end DL
namespace DL
open PySem PySem.Spec PyProof.Rows L2
/-! ### defs -/
/-- an exception: its class, its fields -/
structure DX where
  C : Addr
  ns : List Str
  ds : List D
def XOk (G H : Hp) (cls : Value) (d : Option Addr) (x : DX) : Prop := cls = .ref x.C ∧ ∃ dx vs, d = some dx ∧ H dx = some (.xd (x.ns.zip vs).reverse) ∧ x.ns.length = vs.length ∧ Vds G vs x.ds
structure FrOk (M : Cm) (c : Int) (G H : Hp) : Prop where
  g : Ex M.G0 G
  ex : Ex G H
  fr : ∀ b, M.H0 b ≠ none → Fr0 M b → H b = M.H0 b ∧ G b = M.G0 b
  pen : ∀ p L, M.pen = some (p, L) → PenAt H p L c ∧ G p = none
  tab : TabOk M G H
def penA : Option (Addr × Addr) → List V
  | none => []
  | some (p, _) => [.ref p]
abbrev DFn := List D → Int → (D → Int → Prop) → (DX → Int → Prop) → Prop
def XS (M : Cm) (E : XK) (RX : DX → Int → Prop) : Prop := ∀ x c cls d G H, RX x c → FrOk M c G H → XOk G H cls d x → E cls d H
def spF (hp : Bool) (T : List (Addr × Str)) (Φ : DFn) : Sp := fun vs H Q E => ∃ (M : Cm) (us : List V) (ds : List D) (c : Int) (R : D → Int → Prop) (RX : DX → Int → Prop), M.H0 = H ∧ M.pen.isSome = hp ∧ M.tabs = T ∧ vs = penA M.pen ++ us ∧ FrOk M c M.G0 H ∧ Vds M.G0 us ds ∧ Φ ds c R RX ∧
  (∀ d c' v G' H', R d c' → FrOk M c' G' H' → Vd G' v d → Q v H') ∧ XS M E RX
section
variable {P : Program} {w : World} {K : PySem.W.Frag} {mg : Str → Option Value} {base : Heap} {k : Nat} {M : Cm} {F : Fam P w K mg base k}
/-- at the begin: what is not for good -/
structure Nice (M : Cm) : Prop where
  ex : Ex M.G0 M.H0
  pen : ∀ p L, M.pen = some (p, L) → M.G0 p = none
  tab : ∀ q ∈ M.tabs.map (·.1), M.G0 q = none
theorem Rel.frOk {s : S} {σ : L2.St} {G H : Hp} (R : Rel M s σ G H) (n : Nice M) : FrOk M s.c G H := by
  refine ⟨fun b o e => ?_, R.ex, R.fr, R.pen, R.tab⟩
  have f : Fr0 M b := ⟨fun p L h z => (by rw [z, n.pen p L h] at e; cases e), fun z => (by rw [n.tab b z] at e; cases e)⟩
  exact (R.fr b (by rw [n.ex b o e]; exact fun z => nomatch z) f).2.trans e
theorem FrOk.nice {c : Int} (f : FrOk M c M.G0 M.H0) : Nice M := ⟨f.ex, fun p L e => (f.pen p L e).2, f.tab.2⟩
/-- a def under a call: the state behind it -/
theorem Rel.called {s : S} {σ : L2.St} {G H G' H' : Hp} {M' : Cm} {c' : Int} (R : Rel M s σ G H) (hG : M'.G0 = G) (hH : M'.H0 = H) (hpn : (M'.pen = none ∧ M'.tabs = []) ∨ (M'.pen = M.pen ∧ M'.tabs = M.tabs ∧ M.pen ≠ none)) (f : FrOk M' c' G' H') :
    Rel M ⟨s.sl, if M'.pen = none then s.c else c'⟩ σ G' H' ∧ Go M σ s G H ⟨s.sl, if M'.pen = none then s.c else c'⟩ G' H' := by
  have old : ∀ b, H b ≠ none → Fr0 M b → H' b = H b ∧ G' b = G b := fun b hb hn => by
    have := f.fr b (by rw [hH]; exact hb) (by
      rcases hpn with ⟨z, z2⟩ | ⟨z, z2, _⟩
      · exact ⟨fun p L e => (by rw [z] at e; cases e), (by rw [z2]; simp)⟩
      · exact ⟨fun p L e => hn.1 p L (by rw [← z]; exact e), (by rw [z2]; exact hn.2)⟩)
    rw [hH, hG] at this
    exact this
  have eg : Ex G G' := by rw [← hG]; exact f.g
  rcases hpn with ⟨z, z2⟩ | ⟨z, z2, z3⟩
  · -- all stands
    have all : ∀ b, H b ≠ none → H' b = H b ∧ G' b = G b := fun b hb => by
      have := f.fr b (by rw [hH]; exact hb) ⟨fun p L e => (by rw [z] at e; cases e), (by rw [z2]; simp)⟩
      rw [hH, hG] at this
      exact this
    have eh : Ex H H' := fun b o e => (all b (by rw [e]; exact fun z => nomatch z)).1.trans e
    rw [if_pos z]
    refine ⟨R.go eg old f.ex (fun p L e => ?_) (R.tab.ex R.ex eh fun b hb => (all b hb).2), eg, fun b hb ho => old b hb ho.1, fun _ => Iff.rfl⟩
    obtain ⟨h1, h2⟩ := R.pen p L e
    have hp : H p ≠ none := by
      obtain ⟨ns, a1, a2, a3, a4, a5, _⟩ := h1
      rw [a5]
      exact fun z => nomatch z
    exact ⟨h1.ex eh, (all p hp).2.trans h2⟩
  · rw [if_neg (by rw [z]; exact z3)]
    refine ⟨R.go eg old f.ex (fun p L e => f.pen p L (by rw [z]; exact e)) ⟨by rw [← z2]; exact f.tab.1, by rw [← z2]; exact f.tab.2⟩, eg, fun b hb ho => old b hb ho.1, fun _ => Iff.rfl⟩
/-- f(e, ..), f without a pen -/
@[simp] def dCall (Φ : DFn) (RX : DX → Int → Prop) (ψ : DA) : DE := fun s R => ψ s fun ds s1 => Φ ds 0 (fun d _ => R d s1) fun x _ => RX x s1.c
theorem e_call {kf : Nat} {f : Addr} {fd : FuncData} {ps : List Str} {Φ : DFn} {x : Str} {p pos : Pos} {e : Expr} {es : List Expr} {ψ : DA} {RX : DX → Int → Prop} (Fn : Gd.FnG P w K mg base (L2.CX P w) kf f fd ps (spF false [] Φ)) (hk : kf ≤ k) (hm : mg x = some (.ref f)) (kp : PySem.W.keepIn K (.ref f) = true)
    (hb : Binds K fd ps []) (hE : XS M F.E RX) (ni : Nice M) (ha : EA M F (e :: es) ψ) (hg : ∀ j, Gl (F.X j) x) (hdb : (x == ("__debug__" : Str)) = false := by decide)
    (he : ∀ j, starEach (e :: es) (F.X j).env = (false, eval e (F.X j).env) :: starEach es (F.X j).env := by intro _; rfl) (hpl : ∀ j, (backTo pos (starEach es (F.X j).env)).any (·.1) = false := by intro _; rfl) : ED M F (.Call (.Name x p) (e :: es) [] pos) (dCall Φ RX ψ) := by
  obtain ⟨t, q, a⟩ := ha
  refine ⟨tCall (spF false [] Φ) [] F.E t, fun j => ?_, fun s σ G H R Q rel h q => ?_⟩
  · have Fn' : Gd.FnG (F.X j).prog (F.X j).w (F.X j).K (F.X j).mg (F.X j).base (L2.CX P w) kf f fd ps (spF false [] Φ) := by rw [F.hP j, F.hw j, F.hK j, F.hm j, F.hb j]; exact Fn
    exact Gd.pe_callG Fn' ((F.hr j).mono hk) (F.hG j) (hg j) (by rw [F.hm j]; exact hm) (by rw [F.hK j]; exact kp) (by rw [F.hK j]; exact hb) .nil (F.hx j) (q j) hdb (he j) (hpl j)
  · refine a s σ G H _ _ rel h fun ds s1 vs G1 H1 h1 r1 g1 hvs => ?_
    refine ⟨⟨none, G1, H1, []⟩, vs, ds, 0, _, _, rfl, rfl, rfl, by simp [penA], ⟨Ex.rf _, r1.ex, fun b _ _ => ⟨rfl, rfl⟩, fun p L e => (by cases e), ⟨fun p hp => (by cases hp), fun q hq => (by cases hq)⟩⟩, hvs, h1, fun d c' v G' H' hd fo hv => ?_, fun y c cls d G' H' hy fo xo => ?_⟩
    · obtain ⟨r2, g2⟩ := r1.called (M' := ⟨none, G1, H1, []⟩) rfl rfl (.inl ⟨rfl, rfl⟩) fo
      exact q _ _ _ _ _ hd r2 (g1.tr g2) hv
    · obtain ⟨r2, g2⟩ := r1.called (M' := ⟨none, G1, H1, []⟩) rfl rfl (.inl ⟨rfl, rfl⟩) fo
      exact hE y _ cls d G' H' hy (r2.frOk ni) xo
/-- f(pen, e, ..) -/
@[simp] def dCallP (i : Nat) (Φ : DFn) (RX : DX → Int → Prop) (ψ : DA) : DE := fun s R => (match s.sl[i]? with
  | some .pen => True
  | _ => False) ∧ ψ s fun ds s1 => Φ ds s1.c (fun d c' => R d ⟨s1.sl, c'⟩) RX
theorem e_callP {T : List (Addr × Str)} {kf : Nat} {f : Addr} {fd : FuncData} {ps : List Str} {Φ : DFn} {x : Str} {p pos : Pos} {e : Expr} {es : List Expr} {ψ : DA} {RX : DX → Int → Prop} (i : Nat) (Fn : Gd.FnG P w K mg base (L2.CX P w) kf f fd ps (spF true T Φ)) (hk : kf ≤ k) (hm : mg x = some (.ref f)) (kp : PySem.W.keepIn K (.ref f) = true)
    (hb : Binds K fd ps []) (hE : XS M F.E RX) (ni : Nice M) (hT : M.tabs = T) (hpe : ∀ j, PE (F.X j) e (tVar i)) (ha : EA M F es ψ) (hg : ∀ j, Gl (F.X j) x) (hdb : (x == ("__debug__" : Str)) = false := by decide)
    (he : ∀ j, starEach (e :: es) (F.X j).env = (false, eval e (F.X j).env) :: starEach es (F.X j).env := by intro _; rfl) (hpl : ∀ j, (backTo pos (starEach es (F.X j).env)).any (·.1) = false := by intro _; rfl) : ED M F (.Call (.Name x p) (e :: es) [] pos) (dCallP i Φ RX ψ) := by
  obtain ⟨t, q, a⟩ := ha
  refine ⟨tCall (spF true T Φ) [] F.E (tCons (tVar i) t), fun j => ?_, fun s σ G H R Q rel h q => ?_⟩
  · have Fn' : Gd.FnG (F.X j).prog (F.X j).w (F.X j).K (F.X j).mg (F.X j).base (L2.CX P w) kf f fd ps (spF true T Φ) := by rw [F.hP j, F.hw j, F.hK j, F.hm j, F.hb j]; exact Fn
    exact Gd.pe_callG Fn' ((F.hr j).mono hk) (F.hG j) (hg j) (by rw [F.hm j]; exact hm) (by rw [F.hK j]; exact kp) (by rw [F.hK j]; exact hb) .nil (F.hx j) (pa_cons (hpe j) (q j) (he j)) hdb (he j) (hpl j)
  · obtain ⟨hs, h⟩ := h
    split at hs
    · rename_i hi
      obtain ⟨p, L, ep, es⟩ := rel.getP hi
      refine ⟨_, es, ?_⟩
      refine a s σ G H _ _ rel h fun ds s1 vs G1 H1 h1 r1 g1 hvs => ?_
      refine ⟨⟨some (p, L), G1, H1, M.tabs⟩, vs, ds, s1.c, _, _, rfl, rfl, hT, by simp [penA], ⟨Ex.rf _, r1.ex, fun b _ _ => ⟨rfl, rfl⟩, fun p' L' e => r1.pen p' L' (by rw [ep]; exact e), ⟨r1.tab.1, r1.tab.2⟩⟩, hvs, h1, fun d c' v G' H' hd fo hv => ?_, fun y c cls d G' H' hy fo xo => ?_⟩
      · obtain ⟨r2, g2⟩ := r1.called (M' := ⟨some (p, L), G1, H1, M.tabs⟩) rfl rfl (.inr ⟨ep.symm, rfl, by rw [ep]; exact fun z => nomatch z⟩) fo
        exact q _ _ _ _ _ hd r2 (g1.tr g2) hv
      · obtain ⟨r2, g2⟩ := r1.called (M' := ⟨some (p, L), G1, H1, M.tabs⟩) rfl rfl (.inr ⟨ep.symm, rfl, by rw [ep]; exact fun z => nomatch z⟩) fo
        exact hE y _ cls d G' H' hy (r2.frOk ni) xo
    · exact hs.elim
/-! ### a def's body -/
def Fam.one (X : Cx) (E : XK) (h : X.prog = P ∧ X.w = w ∧ X.K = K ∧ X.mg = mg ∧ X.base = base) (hr : Room k X.A) (hG : X.A.guards = some []) (hc : X.calm = true) (hx : Passes (L2.CX P w) X E) : Fam P w K mg base k where
  ι := Unit
  X := fun _ => X
  hP := fun _ => h.1
  hw := fun _ => h.2.1
  hK := fun _ => h.2.2.1
  hm := fun _ => h.2.2.2.1
  hb := fun _ => h.2.2.2.2
  hr := fun _ => hr
  hG := fun _ => hG
  hc := fun _ => hc
  E := E
  hx := fun _ => hx
/-- the context of a def's body -/
abbrev bodyX (P : Program) (w : World) (K : PySem.W.Frag) (mg : Str → Option Value) (base : Heap) (N : List Str) (qual : Str) (scope : Scope) (f : Addr) (cdv : Value) (A : Around) (outer : List Env) (s : Shared) (H : Hp) (E : XK) : Cx := cxOf (L2.CX P w) P w K mg base N qual scope f cdv A outer s H E
theorem body_takes {N : List Str} {qual : Str} {scope : Scope} {f : Addr} {cdv : Value} {A : Around} {outer : List Env} {s : Shared} {H : Hp} {E : XK} : Takes (bodyX P w K mg base N qual scope f cdv A outer s H E) (fun cls d _ H => E cls d H) := takes_of rfl rfl rfl rfl
theorem body_passes {N : List Str} {qual : Str} {scope : Scope} {f : Addr} {cdv : Value} {A : Around} {outer : List Env} {s : Shared} {H : Hp} {E : XK} : Passes (L2.CX P w) (bodyX P w K mg base N qual scope f cdv A outer s H E) E := passes_call body_takes fun _ _ _ _ z => z
theorem body_own {N : List Str} {qual : Str} {scope : Scope} {f : Addr} {cdv : Value} {A : Around} {outer : List Env} {s : Shared} {H : Hp} {E : XK} : PassesOwn (model P w) (bodyX P w K mg base N qual scope f cdv A outer s H E).A (bodyX P w K mg base N qual scope f cdv A outer s H E).env (bodyX P w K mg base N qual scope f cdv A outer s H E).xe := passes_of (X := bodyX P w K mg base N qual scope f cdv A outer s H E) rfl
abbrev bodyF (P : Program) (w : World) (K : PySem.W.Frag) (mg : Str → Option Value) (base : Heap) (k : Nat) (N : List Str) (qual : Str) (scope : Scope) (f : Addr) (cdv : Value) (A : Around) (outer : List Env) (s : Shared) (H : Hp) (E : XK) (hr : Room k (A.deeper (envOfC qual scope s.heap.objs.size f cdv))) (hG : A.guards = some []) : Fam P w K mg base k :=
  Fam.one (bodyX P w K mg base N qual scope f cdv A outer s H E) E ⟨rfl, rfl, rfl, rfl, rfl⟩ hr hG rfl body_passes
/-- the slots at the begin -/
@[simp] def slots0 (hp : Bool) (n : Nat) (ds : List D) : List Slot := (if hp then [.pen] else []) ++ ds.map .d ++ List.replicate (n - (if hp then 1 else 0) - ds.length) .no
inductive Al (M : Cm) (G H : Hp) : List Slot → L2.St → Prop
  | nil : Al M G H [] []
  | cons {x : Slot} {ov : Option V} {xs : List Slot} {σ : L2.St} : SlOk M G H x ov → (∀ es, x ≠ .own es) → Al M G H xs σ → Al M G H (x :: xs) (ov :: σ)
theorem Al.app {G H : Hp} : ∀ {xs ys : List Slot} {σ τ : L2.St}, Al M G H xs σ → Al M G H ys τ → Al M G H (xs ++ ys) (σ ++ τ)
  | _, _, _, _, .nil, h => h
  | _, _, _, _, .cons a b c, h => .cons a b (c.app h)
theorem Al.len {G H : Hp} : ∀ {xs : List Slot} {σ : L2.St}, Al M G H xs σ → xs.length = σ.length
  | _, _, .nil => rfl
  | _, _, .cons _ _ c => congrArg Nat.succ c.len
theorem Al.get {G H : Hp} : ∀ {xs : List Slot} {σ : L2.St}, Al M G H xs σ → ∀ (i : Nat) (x : Slot) (ov : Option V), xs[i]? = some x → σ[i]? = some ov → SlOk M G H x ov ∧ ∀ es, x ≠ .own es
  | _, _, .nil, i, x, ov, h, _ => by cases h
  | _, _, .cons a b c, 0, x, ov, h, k => by
    cases h
    cases k
    exact ⟨a, b⟩
  | _, _, .cons a b c, i + 1, x, ov, h, k => c.get i x ov h k
theorem al_d {G H : Hp} : ∀ {ds : List D} {us : List V}, Vds G us ds → Al M G H (ds.map .d) (us.map some)
  | _, _, .nil => .nil
  | _, _, .cons h t => .cons ⟨_, rfl, h⟩ (fun _ e => nomatch e) (al_d t)
theorem al_no {G H : Hp} : ∀ n : Nat, Al M G H (List.replicate n .no) (List.replicate n none)
  | 0 => .nil
  | n + 1 => .cons True.intro (fun _ e => nomatch e) (al_no n)
theorem rel0 {N : List Str} {us : List V} {ds : List D} {c : Int} {hp : Bool} (f : FrOk M c M.G0 M.H0) (hpen : M.pen.isSome = hp) (hv : Vds M.G0 us ds) : Rel M ⟨slots0 hp N.length ds, c⟩ (L2.start N (penA M.pen ++ us)) M.G0 M.H0 := by
  have al : Al M M.G0 M.H0 (slots0 hp N.length ds) (L2.start N (penA M.pen ++ us)) := by
    unfold slots0 L2.start
    rw [List.map_append]
    cases q : M.pen with
    | none =>
      rw [q] at hpen
      subst hpen
      have e : N.length - (if (none : Option (Addr × Addr)).isSome = true then 1 else 0) - ds.length = N.length - (penA (none : Option (Addr × Addr)) ++ us).length := by simp [penA, hv.len]
      rw [e]
      exact Al.app (Al.app .nil (al_d hv)) (al_no _)
    | some pl =>
      obtain ⟨p, L⟩ := pl
      rw [q] at hpen
      subst hpen
      have e : N.length - (if (some (p, L) : Option (Addr × Addr)).isSome = true then 1 else 0) - ds.length = N.length - (penA (some (p, L)) ++ us).length := by simp [penA, hv.len]; omega
      rw [e]
      exact Al.app (Al.app (.cons ⟨p, L, q, rfl⟩ (fun _ e => nomatch e) .nil) (al_d hv)) (al_no _)
  exact ⟨f.ex, f.fr, f.pen, f.tab, al.len, fun i x ov h1 h2 => (al.get i x ov h1 h2).1, fun i j ds es a h1 h2 h3 h4 => absurd rfl ((al.get i _ _ h1 h3).2 ds)⟩
theorem fn_of {x qual : Str} {params : Arguments} {body : List Stmt} {scope : Scope} {f : Addr} {fd : FuncData} {N ps : List Str} {hp : Bool} {T : List (Addr × Str)} {Φ : DFn} (Fd : FunD K x qual params body scope [] [] f fd) (Sc : FnScope N ps scope) (hl : ∀ ds c R RX, Φ ds c R RX → ds.length + (if hp then 1 else 0) = ps.length)
    (hb : ∀ (cdv : Value) (A : Around) (outer : List Env) (s : Shared) (H : Hp) (E : XK) (hr : Room k (A.deeper (envOfC qual scope s.heap.objs.size f cdv))) (hG : A.guards = some []) (M : Cm) (RX : DX → Int → Prop), M.H0 = H → M.pen.isSome = hp → M.tabs = T → Nice M → XS M E RX →
      ∃ ψ, SDs M (bodyF P w K mg base k N qual scope f cdv A outer s H E hr hG) body ψ ∧ ∀ ds c R, Φ ds c R RX → ψ ⟨slots0 hp N.length ds, c⟩ { nx := fun s => R .non s.c, rt := fun d s => R d s.c }) :
    Gd.FnG P w K mg base (L2.CX P w) (k + 1) f fd ps (spF hp T Φ) := by
  refine Gd.fnG_of Fd Sc (fun vs H Q E h => ?_) (fun cdv A outer s H vs Q E hr hG h => ?_)
  · obtain ⟨M, us, ds, c, R, RX, h1, h2, ht, rfl, h4, h5, h6, _⟩ := h
    rw [← hl ds c R RX h6, List.length_append, h5.len]
    cases q : M.pen with
    | none => rw [q] at h2; subst h2; simp [penA]
    | some p => rw [q] at h2; subst h2; simp [penA]; omega
  · obtain ⟨M, us, ds, c, R, RX, h1, h2, ht, rfl, h4, h5, h6, h7, h8⟩ := h
    subst h1
    obtain ⟨ψ, ⟨t, p, a⟩, pure_⟩ := hb cdv A outer s M.H0 E hr hG M RX rfl h2 ht (FrOk.nice (c := c) h4) h8
    refine ⟨t, p (), a _ _ M.G0 M.H0 _ _ (rel0 h4 h2 h5) (pure_ ds c R h6) ⟨fun s σ G H hh r x => ?_, fun d s σ v G H hh r x hv => ?_, fun _ _ _ _ z => z.elim, fun _ _ _ _ z => z.elim⟩⟩
    · exact h7 _ _ _ _ _ hh (r.frOk (FrOk.nice (c := c) h4)) .non
    · exact h7 _ _ _ _ _ hh (r.frOk (FrOk.nice (c := c) h4)) hv
end
end DL
namespace DL
open PySem PySem.Spec PyProof.Rows L2
section
variable {P : Program} {w : World} {K : PySem.W.Frag} {mg : Str → Option Value} {base : Heap} {k : Nat} {M : Cm} {F : Fam P w K mg base k}
/-! ### tests -/
@[simp] def tBool (φ : DE) : DT := fun s R => φ s fun d s1 => match d with
  | .bl b => R b s1
  | _ => False
theorem t_val {e : Expr} {φ : DE} (h : ED M F e φ) (he : ∀ j whole, isTrue e (F.X j).env whole = (do let v ← whole; standAt e.pos; holding [v] (truthy v)) := by intro _ _; rfl) : ET M F e (tBool φ) := by
  obtain ⟨t, p, a⟩ := h
  refine ⟨_, fun j => pt_val (p j) (he j), fun s σ G H R Q rel h q => ?_⟩
  refine a s σ G H _ _ rel h fun d s1 v G1 H1 h1 r1 g1 hv => ?_
  split at h1
  · cases hv
    exact ⟨_, rfl, q _ _ _ _ h1 r1 g1⟩
  · exact h1.elim
@[simp] def tNotD (τ : DT) : DT := fun s R => τ s fun b s1 => R (!b) s1
theorem t_not {e : Expr} {pos} {τ : DT} (h : ET M F e τ) : ET M F (.UnaryOp .Not e pos) (tNotD τ) := by
  obtain ⟨t, p, a⟩ := h
  exact ⟨_, fun j => pt_not (p j), fun s σ G H R Q rel h q => a s σ G H _ _ rel h fun b s1 G1 H1 h1 r1 g1 => q _ _ _ _ h1 r1 g1⟩
variable (M F) in
def EW (e : Expr) (τ : DT) : Prop := ∃ t, (∀ i, PW (F.X i) e t) ∧ TSound M t τ
@[simp] def tAndD (τ υ : DT) : DT := fun s R => τ s fun b s1 => if b = true then υ s1 R else R false s1
@[simp] def tOrD (τ υ : DT) : DT := fun s R => τ s fun b s1 => if b = true then R true s1 else υ s1 R
theorem w_and1 {e : Expr} {pos} {τ : DT} (h : ET M F e τ) : EW M F (.BoolOp .And [e] pos) τ := by
  obtain ⟨t, p, a⟩ := h
  exact ⟨_, fun j => pw_and1 (p j), a⟩
theorem w_or1 {e : Expr} {pos} {τ : DT} (h : ET M F e τ) : EW M F (.BoolOp .Or [e] pos) τ := by
  obtain ⟨t, p, a⟩ := h
  exact ⟨_, fun j => pw_or1 (p j), a⟩
theorem w_and {e b : Expr} {rest : List Expr} {pos} {τ υ : DT} (h1 : ET M F e τ) (h2 : EW M F (.BoolOp .And (b :: rest) pos) υ) : EW M F (.BoolOp .And (e :: b :: rest) pos) (tAndD τ υ) := by
  obtain ⟨t, p, a⟩ := h1
  obtain ⟨u, p2, b⟩ := h2
  refine ⟨_, fun j => pw_and (p j) (p2 j), fun s σ G H R Q rel h q => ?_⟩
  refine a s σ G H _ _ rel h fun c s1 G1 H1 h1 r1 g1 => ?_
  cases c with
  | true => exact b s1 σ G1 H1 _ _ r1 h1 fun b s2 G2 H2 h2 r2 g2 => q _ _ _ _ h2 r2 (g1.tr g2)
  | false => exact q _ _ _ _ h1 r1 g1
theorem w_or {e b : Expr} {rest : List Expr} {pos} {τ υ : DT} (h1 : ET M F e τ) (h2 : EW M F (.BoolOp .Or (b :: rest) pos) υ) : EW M F (.BoolOp .Or (e :: b :: rest) pos) (tOrD τ υ) := by
  obtain ⟨t, p, a⟩ := h1
  obtain ⟨u, p2, b⟩ := h2
  refine ⟨_, fun j => pw_or (p j) (p2 j), fun s σ G H R Q rel h q => ?_⟩
  refine a s σ G H _ _ rel h fun c s1 G1 H1 h1 r1 g1 => ?_
  cases c with
  | false => exact b s1 σ G1 H1 _ _ r1 h1 fun b s2 G2 H2 h2 r2 g2 => q _ _ _ _ h2 r2 (g1.tr g2)
  | true => exact q _ _ _ _ h1 r1 g1
theorem t_w {e : Expr} {τ : DT} (h : EW M F e τ) : ET M F e τ := by
  obtain ⟨t, p, a⟩ := h
  exact ⟨_, fun j => PW.pt (p j), a⟩
/-! ### and, or, not as values -/
@[simp] def dAnd (φ ψ : DE) : DE := fun s R => φ s fun d s1 => match d with
  | .bl true => ψ s1 R
  | .bl false => R (.bl false) s1
  | _ => False
@[simp] def dOr (φ ψ : DE) : DE := fun s R => φ s fun d s1 => match d with
  | .bl true => R (.bl true) s1
  | .bl false => ψ s1 R
  | _ => False
@[simp] def dNot (φ : DE) : DE := fun s R => φ s fun d s1 => match d with
  | .bl b => R (.bl (!b)) s1
  | _ => False
theorem e_one {op} {e : Expr} {pos} {φ : DE} (h : ED M F e φ) : ED M F (.BoolOp op [e] pos) φ := by
  obtain ⟨t, p, a⟩ := h
  exact ⟨t, fun j => pe_one (p j), a⟩
theorem e_and {e b : Expr} {rest : List Expr} {pos} {φ ψ : DE} (h1 : ED M F e φ) (h2 : ED M F (.BoolOp .And (b :: rest) pos) ψ) : ED M F (.BoolOp .And (e :: b :: rest) pos) (dAnd φ ψ) := by
  obtain ⟨t, p, a⟩ := h1
  obtain ⟨u, p2, b⟩ := h2
  refine ⟨_, fun j => pe_and (p j) (p2 j), fun s σ G H R Q rel h q => ?_⟩
  refine a s σ G H _ _ rel h fun d s1 v G1 H1 h1 r1 g1 hv => ?_
  split at h1
  · cases hv
    exact ⟨true, rfl, by rw [if_pos rfl]; exact b s1 σ G1 H1 _ _ r1 h1 fun d s2 v G2 H2 h2 r2 g2 hv => q _ _ _ _ _ h2 r2 (g1.tr g2) hv⟩
  · cases hv
    exact ⟨false, rfl, by rw [if_neg (by decide)]; exact q _ _ _ _ _ h1 r1 g1 (.bl false)⟩
  · exact h1.elim
theorem e_or {e b : Expr} {rest : List Expr} {pos} {φ ψ : DE} (h1 : ED M F e φ) (h2 : ED M F (.BoolOp .Or (b :: rest) pos) ψ) : ED M F (.BoolOp .Or (e :: b :: rest) pos) (dOr φ ψ) := by
  obtain ⟨t, p, a⟩ := h1
  obtain ⟨u, p2, b⟩ := h2
  refine ⟨_, fun j => pe_or (p j) (p2 j), fun s σ G H R Q rel h q => ?_⟩
  refine a s σ G H _ _ rel h fun d s1 v G1 H1 h1 r1 g1 hv => ?_
  split at h1
  · cases hv
    exact ⟨true, rfl, by rw [if_pos rfl]; exact q _ _ _ _ _ h1 r1 g1 (.bl true)⟩
  · cases hv
    exact ⟨false, rfl, by rw [if_neg (by decide)]; exact b s1 σ G1 H1 _ _ r1 h1 fun d s2 v G2 H2 h2 r2 g2 hv => q _ _ _ _ _ h2 r2 (g1.tr g2) hv⟩
  · exact h1.elim
theorem e_not {e : Expr} {pos} {φ : DE} (h : ED M F e φ) : ED M F (.UnaryOp .Not e pos) (dNot φ) := by
  obtain ⟨t, p, a⟩ := h
  refine ⟨_, fun j => pe_not (p j), fun s σ G H R Q rel h q => ?_⟩
  refine a s σ G H _ _ rel h fun d s1 v G1 H1 h1 r1 g1 hv => ?_
  split at h1
  · cases hv
    exact ⟨_, rfl, q _ _ _ _ _ h1 r1 g1 (.bl _)⟩
  · exact h1.elim
/-! ### a <= b < c of ints -/
@[simp] def dChain (f g : Int → Int → Bool) (φ ψ χ : DE) : DE := fun s R => φ s fun a s1 => ψ s1 fun b s2 => match a, b with
  | .int i, .int j => if f i j = true then χ s2 fun c s3 => match c with
    | .int l => R (.bl (g j l)) s3
    | _ => False else R (.bl false) s2
  | _, _ => False
theorem chain_sound {t u v : TE} {f g : Int → Int → Bool} {φ ψ χ : DE} (a : ESound M t φ) (b : ESound M u ψ) (c : ESound M v χ) : ESound M (tChain (rI0 fun i j => .bl (f i j)) (rI0 fun i j => .bl (g i j)) t u v) (dChain f g φ ψ χ) := by
  intro s σ G H R Q rel h q
  refine a s σ G H _ _ rel h fun d s1 v1 G1 H1 h1 r1 g1 hv1 => ?_
  refine b s1 σ G1 H1 _ _ r1 h1 fun d2 s2 v2 G2 H2 h2 r2 g2 hv2 => ?_
  split at h2
  · rename_i i j
    cases hv1
    cases hv2
    refine ⟨i, j, rfl, rfl, f i j, rfl, ?_⟩
    split at h2
    · rename_i hf
      rw [if_pos hf]
      refine c s2 σ G2 H2 _ _ r2 h2 fun d3 s3 v3 G3 H3 h3 r3 g3 hv3 => ?_
      split at h3
      · cases hv3
        exact ⟨_, _, rfl, rfl, q _ _ _ _ _ h3 r3 (g1.tr (g2.tr g3)) (.bl _)⟩
      · exact h3.elim
    · rename_i hf
      rw [if_neg hf]
      exact q _ _ _ _ _ h2 r2 (g1.tr g2) (.bl _)
  · exact h2.elim
theorem e_chain {op op' : CmpOp} {x y z : Expr} {pos} {f g : Int → Int → Bool} {φ ψ χ : DE} (ho : ∀ j, OpR (F.X j) (compareOp op) (rI0 fun i j => .bl (f i j))) (ho' : ∀ j, OpR (F.X j) (compareOp op') (rI0 fun i j => .bl (g i j))) (h1 : ED M F x φ) (h2 : ED M F y ψ) (h3 : ED M F z χ)
    (hm : lastMarks [op, op'] [y, z] = false := by with_unfolding_all rfl) : ED M F (.Compare x [op, op'] [y, z] pos) (dChain f g φ ψ χ) := by
  obtain ⟨t, p, a⟩ := h1
  obtain ⟨u, p2, b⟩ := h2
  obtain ⟨v, p3, c⟩ := h3
  exact ⟨_, fun j => pe_chain (ho j) (ho' j) (p j) (p2 j) (p3 j) hm, chain_sound a b c⟩
theorem t_chain {op op' : CmpOp} {x y z : Expr} {pos} {f g : Int → Int → Bool} {φ ψ χ : DE} (ho : ∀ j, OpR (F.X j) (compareOp op) (rI0 fun i j => .bl (f i j))) (ho' : ∀ j, OpR (F.X j) (compareOp op') (rI0 fun i j => .bl (g i j))) (h1 : ED M F x φ) (h2 : ED M F y ψ) (h3 : ED M F z χ)
    (hm : lastMarks [op, op'] [y, z] = false := by with_unfolding_all rfl) : ET M F (.Compare x [op, op'] [y, z] pos) (tBool (dChain f g φ ψ χ)) := by
  obtain ⟨t, p, a⟩ := h1
  obtain ⟨u, p2, b⟩ := h2
  obtain ⟨v, p3, c⟩ := h3
  refine ⟨_, fun j => pt_chain (ho j) (ho' j) (p j) (p2 j) (p3 j) hm, fun s σ G H R Q rel h q => ?_⟩
  refine chain_sound a b c s σ G H _ _ rel h fun d s1 v1 G1 H1 h1 r1 g1 hv => ?_
  split at h1
  · cases hv
    exact ⟨_, rfl, q _ _ _ _ h1 r1 g1⟩
  · exact h1.elim
/-! ### x[i] -/
theorem vds_atI {G : Hp} {vs : List V} {ds : List D} {i : Int} {d : D} (h : Vds G vs ds) (e : atI ds i = some d) : ∃ v, atI vs i = some v ∧ Vd G v d := by
  unfold atI at e ⊢
  rw [h.len]
  cases q : ixN ds.length i with
  | none => rw [q] at e; cases e
  | some j =>
    rw [q] at e
    exact h.get e
@[simp] def oIx : DO := fun a b R => match a, b with
  | .tup ds, .int i => ∃ d, atI ds i = some d ∧ R d
  | .lst ds, .int i => ∃ d, atI ds i = some d ∧ R d
  | _, _ => False
theorem o_ixT : OSound (rIxT K) (fun a b R => match a, b with
  | .tup ds, .int i => ∃ d, atI ds i = some d ∧ R d
  | _, _ => False) := by
  intro G H x y a b R Q e hx hy h q _
  split at h
  · obtain ⟨d, h1, h2⟩ := h
    cases hy
    cases hx with
    | @tup p vs ds hp hv =>
      obtain ⟨v, e1, hv'⟩ := vds_atI hv h1
      exact ⟨p, vs, _, v, rfl, rfl, .inl (.inl (e _ _ hp)), e1, q _ _ h2 hv'⟩
  · exact h.elim
theorem o_ix : OSound (fun x y H Q => rIxT K x y H Q ∨ rIxL K x y H Q) oIx := by
  intro G H x y a b R Q e hx hy h q _
  unfold oIx at h
  split at h
  · obtain ⟨d, h1, h2⟩ := h
    cases hy
    cases hx with
    | @tup p vs ds hp hv =>
      obtain ⟨v, e1, hv'⟩ := vds_atI hv h1
      exact .inl ⟨p, vs, _, v, rfl, rfl, .inl (.inl (e _ _ hp)), e1, q _ _ h2 hv'⟩
  · obtain ⟨d, h1, h2⟩ := h
    cases hy
    cases hx with
    | @lst p vs ds hp hv =>
      obtain ⟨v, e1, hv'⟩ := vds_atI hv h1
      exact .inr ⟨p, vs, _, v, rfl, rfl, .inl (.inl (e _ _ hp)), e1, q _ _ h2 hv'⟩
  · exact h.elim
theorem ix_both {X : Cx} : IxR X (fun x y H Q => rIxT X.K x y H Q ∨ rIxL X.K x y H Q) := IxR.or ix_tup ix_list
theorem e_ix {x y : Expr} {pos} {φ ψ : DE} (h1 : ED M F x φ) (h2 : ED M F y ψ) (hs : PlainIx y := by intro _ _; rfl) : ED M F (.Subscript x y pos) (dOp oIx φ ψ) := by
  obtain ⟨t, p, a⟩ := h1
  obtain ⟨u, p2, b⟩ := h2
  exact ⟨_, fun j => by have := pe_ix (pos := pos) (ix_both (X := F.X j)) (p j) (p2 j) hs; rw [F.hK j] at this; exact this, op_sound o_ix a b⟩
/-! ### calls of builtins -/
def CSound (r : List V → Hp → VK → Prop) (ρ : List D → (D → Prop) → Prop) : Prop := ∀ (G H : Hp) (xs : List V) (ds : List D) (R : D → Prop) (Q : VK), Ex G H → Vds G xs ds → ρ ds R →
  (∀ d v, R d → Vd G v d → Q v H) → (∀ d u p o, R d → H p = none → (∀ G', Ex G G' → G' p = some o → Vd G' (.ref p) d) → u = upd H p o → Q (.ref p) u) → r xs H Q
@[simp] def dCB (ρ : List D → (D → Prop) → Prop) (ψ : DA) : DE := fun s R => ψ s fun ds s1 => ρ ds fun d => R d s1
theorem cb_sound {t : TA} {r : List V → Hp → VK → Prop} {ρ : List D → (D → Prop) → Prop} {ψ : DA} (hr : CSound r ρ) (a : ASound M t ψ) : ESound M (tCB r t) (dCB ρ ψ) := by
  intro s σ G H R Q rel h q
  refine a s σ G H _ _ rel h fun ds s1 vs G1 H1 h1 r1 e1 hvs => ?_
  refine hr G1 H1 vs ds _ _ r1.ex hvs h1 (fun d v hR hv => q _ _ _ _ _ hR r1 e1 hv) fun d u p o hR hp hz hu => ?_
  subst hu
  exact q _ _ _ _ _ hR (r1.new hp) (e1.tr (.new r1 hp)) (hz _ (ex_new (ex_none r1.ex hp)) upd_at)
theorem e_callB {id : String} {r : List V → Hp → VK → Prop} {ρ : List D → (D → Prop) → Prop} {x : Str} {p pos : Pos} {e : Expr} {es : List Expr} {ψ : DA} (hc : ∀ j, CallR (F.X j) (.builtin id) r) (hr : CSound r ρ) (hm : mg x = none) (hv : bootBuiltins x = some (.builtin id)) (ha : EA M F (e :: es) ψ) (hg : ∀ j, Gl (F.X j) x)
    (hn : x ≠ "__name__" := by decide) (hdb : (x == ("__debug__" : Str)) = false := by decide) (he : ∀ j, starEach (e :: es) (F.X j).env = (false, eval e (F.X j).env) :: starEach es (F.X j).env := by intro _; rfl) (hpl : ∀ j, (backTo pos (starEach es (F.X j).env)).any (·.1) = false := by intro _; rfl) :
    ED M F (.Call (.Name x p) (e :: es) [] pos) (dCB ρ ψ) := by
  obtain ⟨t, q, a⟩ := ha
  exact ⟨_, fun j => pe_callB (hc j) (hg j) (by rw [F.hm j]; exact hm) hv (q j) hn hdb (he j) (hpl j), cb_sound hr a⟩
theorem e_callTy {T : String} {r : List V → Hp → VK → Prop} {ρ : List D → (D → Prop) → Prop} {x : Str} {p pos : Pos} {e : Expr} {es : List Expr} {ψ : DA} (hc : ∀ j, CallR (F.X j) (.type T) r) (hr : CSound r ρ) (hm : mg x = none) (hv : bootBuiltins x = some (.type T)) (ha : EA M F (e :: es) ψ) (hg : ∀ j, Gl (F.X j) x)
    (hn : x ≠ "__name__" := by decide) (hdb : (x == ("__debug__" : Str)) = false := by decide) (he : ∀ j, starEach (e :: es) (F.X j).env = (false, eval e (F.X j).env) :: starEach es (F.X j).env := by intro _; rfl) (hpl : ∀ j, (backTo pos (starEach es (F.X j).env)).any (·.1) = false := by intro _; rfl) :
    ED M F (.Call (.Name x p) (e :: es) [] pos) (dCB ρ ψ) := by
  obtain ⟨t, q, a⟩ := ha
  exact ⟨_, fun j => pe_callTy (hc j) (hg j) (by rw [F.hm j]; exact hm) hv (q j) hn hdb (he j) (hpl j), cb_sound hr a⟩
/-- a built-in type as a value -/
theorem e_ty {n : String} {x : Str} {pos} (hm : mg x = none) (hv : bootBuiltins x = some (.type n)) (hg : ∀ j, Gl (F.X j) x) (hn : x ≠ "__name__" := by decide) (hdb : (x == ("__debug__" : Str)) = false := by decide) : ED M F (.Name x pos) (dC (.ty n)) := e_c (v := .ty n) (fun j => pe_bltn (hg j) (by rw [F.hm j]; exact hm) hv rfl (hn := hn) (hd := hdb)) fun _ => .ty n
/-! isinstance -/
@[simp] def tyN : D → Option String
  | .non => some "NoneType"
  | .bl _ => some "bool"
  | .int _ => some "int"
  | .str _ => some "str"
  | .tup _ => some "tuple"
  | .lst _ => some "list"
  | .dct _ _ => some "dict"
  | _ => none
theorem tyX_of {G H : Hp} {v : V} {d : D} {n : String} (e : Ex G H) (h : Vd G v d) (hn : tyN d = some n) : TyX K H v (.type n) := by
  cases h with
  | non => cases hn; exact .base .non
  | bl b => cases hn; exact .base (.bl b)
  | int i => cases hn; exact .base (.int i)
  | str x => cases hn; exact .base (.str x)
  | lst h t => cases hn; exact .base (.lst (e _ _ h))
  | tup h t => cases hn; exact .base (.tup (e _ _ h))
  | dct h l t => cases hn; exact .base (.dK (e _ _ h))
  | ty n => cases hn
  | cls C => cases hn
  | clo h => cases hn
  | sc h k t => cases hn
  | obj h l t => cases hn
@[simp] def isiN (n T : String) : Bool := n == T || (n == "bool" && T == "int")
@[simp] def isTs : List String := ["int", "bool", "str", "tuple", "list", "dict"]
theorem kit_isi : ∀ n ∈ ["NoneType", "bool", "int", "str", "tuple", "list", "dict"], ∀ T ∈ isTs, kitB n T = some (isiN n T) := by decide +kernel
theorem tyN_mem {d : D} {n : String} (h : tyN d = some n) : n ∈ ["NoneType", "bool", "int", "str", "tuple", "list", "dict"] := by
  cases d <;> cases h <;> simp
/-- isinstance(d, T) | isinstance(d, (T, ..)) -/
@[simp] def cIsi : List D → (D → Prop) → Prop := fun ds R => match ds with
  | [x, .ty T] => (match tyN x with
    | some n => T ∈ isTs ∧ R (.bl (isiN n T))
    | none => False)
  | _ => False
theorem c_isi : CSound (rIsi K) cIsi := by
  intro G H xs ds R Q e hv h q _
  unfold cIsi at h
  split at h
  · rename_i x T
    split at h
    · rename_i n hn
      cases hv with
      | cons a1 t =>
        cases t with
        | cons a2 t =>
          cases a2
          cases t
          exact ⟨_, _, _, _, _, rfl, .ty T, tyX_of e a1 hn, kit_ty (kit_isi n (tyN_mem hn) T h.1), q _ _ h.2 (.bl _)⟩
    · exact h.elim
  · exact h.elim
@[simp] def cIsT : List D → (D → Prop) → Prop := fun ds R => match ds with
  | [x, .tup ts] => (match tyN x with
    | some n => ∃ Ts : List String, ts = Ts.map .ty ∧ (∀ T ∈ Ts, T ∈ isTs) ∧ R (.bl (Ts.any (isiN n)))
    | none => False)
  | _ => False
theorem kitAny_ty {n : String} (hn : n ∈ ["NoneType", "bool", "int", "str", "tuple", "list", "dict"]) : ∀ Ts : List String, (∀ T ∈ Ts, T ∈ isTs) → PySem.W.kitAny K (.type n) (Ts.map Value.type) = some (Ts.any (isiN n))
  | [], _ => rfl
  | T :: Ts, h => by
    have h1 := kit_ty (K := K) (kit_isi n hn T (h T List.mem_cons_self))
    refine kitAny_cons (b := isiN n T) h1 (fun hb => ?_) fun hb => ?_
    · rw [List.any_cons, hb, Bool.false_or]
      exact kitAny_ty hn Ts fun T' hT' => h T' (List.mem_cons_of_mem _ hT')
    · rw [List.any_cons, hb, Bool.true_or]
theorem vds_ty {G : Hp} : ∀ {Ts : List String} {vs : List V}, Vds G vs (Ts.map .ty) → vs = Ts.map V.ty ∧ Paired ClsV vs (Ts.map Value.type)
  | [], _, h => by cases h; exact ⟨rfl, .nil⟩
  | T :: Ts, _, h => by
    cases h with
    | cons a t =>
      cases a
      obtain ⟨e, p⟩ := vds_ty t
      exact ⟨by rw [e]; rfl, .cons (.ty T) p⟩
theorem c_isT : CSound (rIsiT K) cIsT := by
  intro G H xs ds R Q e hv h q _
  unfold cIsT at h
  split at h
  · rename_i x ts
    split at h
    · rename_i n hn
      obtain ⟨Ts, rfl, hT, hR⟩ := h
      cases hv with
      | cons a1 t =>
        cases t with
        | cons a2 t =>
          cases t
          cases a2 with
          | @tup p vs _ hp hv =>
            obtain ⟨_, pr⟩ := vds_ty hv
            exact ⟨_, p, vs, _, _, _, rfl, e _ _ hp, pr, tyX_of e a1 hn, kitAny_ty (tyN_mem hn) Ts hT, q _ _ hR (.bl _)⟩
    · exact h.elim
  · exact h.elim
theorem boot_isi : bootBuiltins "isinstance" = some (.builtin "isinstance") := by decide +kernel
theorem e_isi {p pos : Pos} {a b : Expr} {ψ : DA} (hm : mg "isinstance" = none) (ha : EA M F [a, b] ψ) (hg : ∀ j, Gl (F.X j) "isinstance") (he : ∀ j, starEach [a, b] (F.X j).env = (false, eval a (F.X j).env) :: starEach [b] (F.X j).env := by intro _; rfl) (hpl : ∀ j, (backTo pos (starEach [b] (F.X j).env)).any (·.1) = false := by intro _; rfl) :
    ED M F (.Call (.Name "isinstance" p) [a, b] [] pos) (dCB cIsi ψ) := e_callB (fun j => by have := call_isi (X := F.X j); rw [F.hK j] at this; exact this) c_isi hm boot_isi ha hg (by decide) (by decide) he hpl
theorem e_isT {p pos : Pos} {a b : Expr} {ψ : DA} (hm : mg "isinstance" = none) (ha : EA M F [a, b] ψ) (hg : ∀ j, Gl (F.X j) "isinstance") (he : ∀ j, starEach [a, b] (F.X j).env = (false, eval a (F.X j).env) :: starEach [b] (F.X j).env := by intro _; rfl) (hpl : ∀ j, (backTo pos (starEach [b] (F.X j).env)).any (·.1) = false := by intro _; rfl) :
    ED M F (.Call (.Name "isinstance" p) [a, b] [] pos) (dCB cIsT ψ) := e_callB (fun j => by have := call_isiT (X := F.X j); rw [F.hK j] at this; exact this) c_isT hm boot_isi ha hg (by decide) (by decide) he hpl
/-! len, all, any, sum, tuple, list, int -/
@[simp] def cLen : List D → (D → Prop) → Prop := fun ds R => match ds with
  | [.tup xs] => R (.int xs.length)
  | [.lst xs] => R (.int xs.length)
  | _ => False
theorem c_len : CSound (fun xs H Q => ∃ p ys, xs = [.ref p] ∧ (SqL K H p ys ∨ SqT K H p ys) ∧ Q (.int ys.length) H) cLen := by
  intro G H xs ds R Q e hv h q _
  unfold cLen at h
  split at h
  · cases hv with
    | cons a t =>
      cases t
      cases a with
      | @tup p vs _ hp hv => exact ⟨p, vs, rfl, .inr (.inl (.inl (e _ _ hp))), q _ _ h (by rw [hv.len]; exact .int _)⟩
  · cases hv with
    | cons a t =>
      cases t
      cases a with
      | @lst p vs _ hp hv => exact ⟨p, vs, rfl, .inl (.inl (.inl (e _ _ hp))), q _ _ h (by rw [hv.len]; exact .int _)⟩
  · exact h.elim
theorem e_len {p pos : Pos} {a : Expr} {ψ : DA} (hm : mg "len" = none) (ha : EA M F [a] ψ) (hg : ∀ j, Gl (F.X j) "len") (he : ∀ j, starEach [a] (F.X j).env = (false, eval a (F.X j).env) :: starEach [] (F.X j).env := by intro _; rfl) (hpl : ∀ j, (backTo pos (starEach [] (F.X j).env)).any (·.1) = false := by intro _; rfl) :
    ED M F (.Call (.Name "len" p) [a] [] pos) (dCB cLen ψ) := e_callB (fun j => by have := call_len_seq (X := F.X j); rw [F.hK j] at this; exact this) c_len hm PySem.boot_len ha hg (by decide) (by decide) he hpl
/-- rows of bools, of ints -/
@[simp] def blsD : List D → Option (List Bool)
  | [] => some []
  | .bl b :: r => (blsD r).map (b :: ·)
  | _ => none
@[simp] def intsD : List D → Option (List Int)
  | [] => some []
  | .int i :: r => (intsD r).map (i :: ·)
  | _ => none
theorem bls_v {G : Hp} : ∀ {ds : List D} {vs : List V} {bs : List Bool}, Vds G vs ds → blsD ds = some bs → vs = bs.map V.bl
  | [], _, bs, h, e => by cases h; cases e; rfl
  | .bl b :: r, _, bs, .cons a t, e => by
    cases a
    unfold blsD at e
    cases q : blsD r with
    | none => rw [q] at e; cases e
    | some cs =>
      rw [q] at e
      cases e
      rw [bls_v t q]
      rfl
theorem ints_v {G : Hp} : ∀ {ds : List D} {vs : List V} {bs : List Int}, Vds G vs ds → intsD ds = some bs → vs = bs.map V.int
  | [], _, bs, h, e => by cases h; cases e; rfl
  | .int b :: r, _, bs, .cons a t, e => by
    cases a
    unfold intsD at e
    cases q : intsD r with
    | none => rw [q] at e; cases e
    | some cs =>
      rw [q] at e
      cases e
      rw [ints_v t q]
      rfl
@[simp] def cAll : List D → (D → Prop) → Prop := fun ds R => match ds with
  | [.lst xs] => ∃ bs, blsD xs = some bs ∧ R (.bl (bs.all id))
  | _ => False
@[simp] def cAny : List D → (D → Prop) → Prop := fun ds R => match ds with
  | [.lst xs] => ∃ bs, blsD xs = some bs ∧ R (.bl (bs.any id))
  | _ => False
@[simp] def cSum : List D → (D → Prop) → Prop := fun ds R => match ds with
  | [.lst xs] => ∃ bs, intsD xs = some bs ∧ R (.int bs.sum)
  | _ => False
theorem c_all : CSound (rAll K) cAll := by
  intro G H xs ds R Q e hv h q _
  unfold cAll at h
  split at h
  · obtain ⟨bs, h1, h2⟩ := h
    cases hv with
    | cons a t =>
      cases t
      cases a with
      | @lst p vs _ hp hv => exact ⟨p, bs, rfl, .inl (.inl (by rw [← bls_v hv h1]; exact e _ _ hp)), q _ _ h2 (.bl _)⟩
  · exact h.elim
theorem c_any : CSound (rAny K) cAny := by
  intro G H xs ds R Q e hv h q _
  unfold cAny at h
  split at h
  · obtain ⟨bs, h1, h2⟩ := h
    cases hv with
    | cons a t =>
      cases t
      cases a with
      | @lst p vs _ hp hv => exact ⟨p, bs, rfl, .inl (.inl (by rw [← bls_v hv h1]; exact e _ _ hp)), q _ _ h2 (.bl _)⟩
  · exact h.elim
theorem c_sum : CSound (rSum K) cSum := by
  intro G H xs ds R Q e hv h q _
  unfold cSum at h
  split at h
  · obtain ⟨bs, h1, h2⟩ := h
    cases hv with
    | cons a t =>
      cases t
      cases a with
      | @lst p vs _ hp hv => exact ⟨p, bs, rfl, .inl (.inl (by rw [← ints_v hv h1]; exact e _ _ hp)), q _ _ h2 (.int _)⟩
  · exact h.elim
theorem boot_all : bootBuiltins "all" = some (.builtin "all") := by decide +kernel
theorem boot_any : bootBuiltins "any" = some (.builtin "any") := by decide +kernel
theorem boot_sum : bootBuiltins "sum" = some (.builtin "sum") := by decide +kernel
theorem boot_tup : bootBuiltins "tuple" = some (.type "tuple") := by decide +kernel
theorem boot_lst : bootBuiltins "list" = some (.type "list") := by decide +kernel
theorem boot_intD : bootBuiltins "int" = some (.type "int") := by decide +kernel
theorem boot_boolD : bootBuiltins "bool" = some (.type "bool") := by decide +kernel
section
variable {p pos : Pos} {a : Expr} {ψ : DA} (he : ∀ j, starEach [a] (F.X j).env = (false, eval a (F.X j).env) :: starEach [] (F.X j).env) (hpl : ∀ j, (backTo pos (starEach [] (F.X j).env)).any (·.1) = false)
theorem e_all (hm : mg "all" = none) (ha : EA M F [a] ψ) (hg : ∀ j, Gl (F.X j) "all") (he : ∀ j, starEach [a] (F.X j).env = (false, eval a (F.X j).env) :: starEach [] (F.X j).env := by intro _; rfl) (hpl : ∀ j, (backTo pos (starEach [] (F.X j).env)).any (·.1) = false := by intro _; rfl) :
    ED M F (.Call (.Name "all" p) [a] [] pos) (dCB cAll ψ) := e_callB (fun j => by have := cr_all (X := F.X j) (F.hc j); rw [F.hK j] at this; exact this) c_all hm boot_all ha hg (by decide) (by decide) he hpl
theorem e_any (hm : mg "any" = none) (ha : EA M F [a] ψ) (hg : ∀ j, Gl (F.X j) "any") (he : ∀ j, starEach [a] (F.X j).env = (false, eval a (F.X j).env) :: starEach [] (F.X j).env := by intro _; rfl) (hpl : ∀ j, (backTo pos (starEach [] (F.X j).env)).any (·.1) = false := by intro _; rfl) :
    ED M F (.Call (.Name "any" p) [a] [] pos) (dCB cAny ψ) := e_callB (fun j => by have := cr_any (X := F.X j) (F.hc j); rw [F.hK j] at this; exact this) c_any hm boot_any ha hg (by decide) (by decide) he hpl
theorem e_sum (hm : mg "sum" = none) (ha : EA M F [a] ψ) (hg : ∀ j, Gl (F.X j) "sum") (he : ∀ j, starEach [a] (F.X j).env = (false, eval a (F.X j).env) :: starEach [] (F.X j).env := by intro _; rfl) (hpl : ∀ j, (backTo pos (starEach [] (F.X j).env)).any (·.1) = false := by intro _; rfl) :
    ED M F (.Call (.Name "sum" p) [a] [] pos) (dCB cSum ψ) := e_callB (fun j => by have := cr_sum (X := F.X j) (F.hc j); rw [F.hK j] at this; exact this) c_sum hm boot_sum ha hg (by decide) (by decide) he hpl
end
/-- tuple(x) -/
@[simp] def cTup : List D → (D → Prop) → Prop := fun ds R => match ds with
  | [.tup xs] => R (.tup xs)
  | [.lst xs] => R (.tup xs)
  | _ => False
theorem c_tup : CSound (fun xs H Q => ∃ p ys, xs = [.ref p] ∧ ((SqL K H p ys ∧ ∀ l, H l = none → Q (.ref l) (upd H l (.tup ys))) ∨ (SqT K H p ys ∧ Q (.ref p) H))) cTup := by
  intro G H xs ds R Q e hv h q q2
  unfold cTup at h
  split at h
  · cases hv with
    | cons a t =>
      cases t
      cases a with
      | @tup p vs _ hp hv => exact ⟨p, vs, rfl, .inr ⟨.inl (.inl (e _ _ hp)), q _ _ h (.tup hp hv)⟩⟩
  · cases hv with
    | cons a t =>
      cases t
      cases a with
      | @lst p vs _ hp hv => exact ⟨p, vs, rfl, .inl ⟨.inl (.inl (e _ _ hp)), fun l hl => q2 _ _ l _ h hl (fun G' eg hl' => .tup hl' (Vds.mono eg hv)) rfl⟩⟩
  · exact h.elim
theorem e_tuple {p pos : Pos} {a : Expr} {ψ : DA} (hm : mg "tuple" = none) (ha : EA M F [a] ψ) (hg : ∀ j, Gl (F.X j) "tuple") (he : ∀ j, starEach [a] (F.X j).env = (false, eval a (F.X j).env) :: starEach [] (F.X j).env := by intro _; rfl) (hpl : ∀ j, (backTo pos (starEach [] (F.X j).env)).any (·.1) = false := by intro _; rfl) :
    ED M F (.Call (.Name "tuple" p) [a] [] pos) (dCB cTup ψ) := e_callTy (fun j => by have := call_tuple_of (X := F.X j); rw [F.hK j] at this; exact this) c_tup hm boot_tup ha hg (by decide) (by decide) he hpl
/-- list(x), a new list -/
@[simp] def lList (ψ : DA) : DA := fun s R => ψ s fun ds s1 => match ds with
  | [.tup xs] => R xs s1
  | [.lst xs] => R xs s1
  | _ => False
theorem l_list {p pos : Pos} {a : Expr} {ψ : DA} (hm : mg "list" = none) (ha : EA M F [a] ψ) (hg : ∀ j, Gl (F.X j) "list") (he : ∀ j, starEach [a] (F.X j).env = (false, eval a (F.X j).env) :: starEach [] (F.X j).env := by intro _; rfl) (hpl : ∀ j, (backTo pos (starEach [] (F.X j).env)).any (·.1) = false := by intro _; rfl) :
    EL M F (.Call (.Name "list" p) [a] [] pos) (lList ψ) := by
  obtain ⟨t, q, b⟩ := ha
  refine ⟨tCB (fun xs H Q => ∃ p ys, xs = [.ref p] ∧ (SqL K H p ys ∨ SqT K H p ys) ∧ ∀ l, H l = none → Q (.ref l) (upd H l (.lst ys))) t, fun j => pe_callTy (by have := call_list_of (X := F.X j); rw [F.hK j] at this; exact this) (hg j) (by rw [F.hm j]; exact hm) boot_lst (q j) (by decide) (by decide) (he j) (hpl j), fun s σ G H R Q rel h q => ?_⟩
  refine b s σ G H _ _ rel h fun ds s1 vs G1 H1 h1 r1 g1 hvs => ?_
  have fin : ∀ (l : Addr) (us : List V) (xs : List D), R xs s1 → Vds G1 us xs → H1 l = none → Q (.ref l) (upd H1 l (.lst us)) := fun l us xs hR hu hl => by
    obtain ⟨f1, f2, f3, f4⟩ := r1.fresh hl
    exact q _ _ _ _ _ _ hR (r1.lay hl) (g1.tr (.lay hl)) hu (g1.none rel r1 hl) upd_at f1 f2 f3 f4
  split at h1
  · cases hvs with
    | cons a t =>
      cases t
      cases a with
      | @tup p us _ hp hv => exact ⟨p, us, rfl, .inr (.inl (.inl (r1.ex _ _ hp))), fun l hl => fin l us _ h1 hv hl⟩
  · cases hvs with
    | cons a t =>
      cases t
      cases a with
      | @lst p us _ hp hv => exact ⟨p, us, rfl, .inl (.inl (.inl (r1.ex _ _ hp))), fun l hl => fin l us _ h1 hv hl⟩
  · exact h1.elim
end
end DL
namespace DL
open PySem PySem.Spec PyProof.Rows L2
section
variable {P : Program} {w : World} {K : PySem.W.Frag} {mg : Str → Option Value} {base : Heap} {k : Nat} {M : Cm} {F : Fam P w K mg base k}
/-! ### comparisons, bundled -/
variable (F) in
def Cmp (op : CmpOp) (ρ : DO) : Prop := ∃ r, (∀ j, OpR (F.X j) (compareOp op) r) ∧ OSound r ρ
theorem tc {op : CmpOp} {x y : Expr} {pos} {ρ : DO} {φ ψ : DE} (hr : Cmp F op ρ) (h1 : ED M F x φ) (h2 : ED M F y ψ) (hm : behindInMarks op y = false) : ET M F (.Compare x [op] [y] pos) (fun s R => dOp ρ φ ψ s fun d s' => ∃ b, d = .bl b ∧ R b s') := by
  obtain ⟨r, a, b⟩ := hr
  exact t_cmp a b h1 h2 hm
theorem ec {op : CmpOp} {x y : Expr} {pos} {ρ : DO} {φ ψ : DE} (hr : Cmp F op ρ) (h1 : ED M F x φ) (h2 : ED M F y ψ) (hm : behindInMarks op y = false) : ED M F (.Compare x [op] [y] pos) (dOp ρ φ ψ) := by
  obtain ⟨r, a, b⟩ := hr
  exact e_cmp a b h1 h2 hm
theorem c_lt : Cmp F .Lt (oI0 fun i j => .bl (decide (i < j))) := ⟨_, fun _ => op_lt, o_I0 fun _ _ _ => .bl _⟩
theorem c_le : Cmp F .LtE (oI0 fun i j => .bl (decide (i ≤ j))) := ⟨_, fun _ => op_le, o_I0 fun _ _ _ => .bl _⟩
theorem c_gt : Cmp F .Gt (oI0 fun i j => .bl (decide (i > j))) := ⟨_, fun _ => op_gt, o_I0 fun _ _ _ => .bl _⟩
theorem c_ge : Cmp F .GtE (oI0 fun i j => .bl (decide (i ≥ j))) := ⟨_, fun _ => op_ge, o_I0 fun _ _ _ => .bl _⟩
/-! == of data -/
mutual
@[simp] def pyE : D → Option PyData
  | .non => some .none
  | .bl b => some (.bool b)
  | .int i => some (.int i)
  | .str x => some (.str x)
  | .tup ds => (pyEs ds).map .tuple
  | .lst ds => (pyEs ds).map .list
  | _ => none
@[simp] def pyEs : List D → Option (List PyData)
  | [] => some []
  | d :: ds => match pyE d, pyEs ds with
    | some x, some xs => some (x :: xs)
    | _, _ => none
end
mutual
theorem dp_of {G H : Hp} (e : Ex G H) : ∀ {d : D} {v : V} {x : PyData}, Vd G v d → pyE d = some x → Dp K H v x
  | .non, _, _, .non, h => by cases h; exact .non
  | .bl b, _, _, .bl _, h => by cases h; exact .bl b
  | .int i, _, _, .int _, h => by cases h; exact .int i
  | .str s, _, _, .str _, h => by cases h; exact .str s
  | .tup ds, _, x, .tup hp hv, h => by
    have h : (pyEs ds).map .tuple = some x := h
    cases q : pyEs ds with
    | none => rw [q] at h; cases h
    | some xs =>
      rw [q] at h
      cases h
      exact .tup (.inl (.inl (e _ _ hp))) (dps_of e hv q)
  | .lst ds, _, x, .lst hp hv, h => by
    have h : (pyEs ds).map .list = some x := h
    cases q : pyEs ds with
    | none => rw [q] at h; cases h
    | some xs =>
      rw [q] at h
      cases h
      exact .lst (.inl (.inl (e _ _ hp))) (dps_of e hv q)
theorem dps_of {G H : Hp} (e : Ex G H) : ∀ {ds : List D} {vs : List V} {xs : List PyData}, Vds G vs ds → pyEs ds = some xs → DpAll K H vs xs
  | [], _, _, .nil, h => by cases h; exact .nil
  | d :: ds, _, xs, .cons a t, h => by
    unfold pyEs at h
    split at h
    · rename_i x ys h1 h2
      cases h
      exact .cons (dp_of e a h1) (dps_of e t h2)
    · cases h
end
@[simp] def oEq : DO := fun a b R => match a, b with
  | .int i, .int j => R (.bl (decide (i = j)))
  | .str i, .str j => R (.bl (decide (i = j)))
  | .bl i, .bl j => R (.bl (decide (i = j)))
  | a, b => ∃ x y, pyE a = some x ∧ pyE b = some y ∧ SeqAt.shaped x = true ∧ SeqAt.shaped y = true ∧ R (.bl (PyData.eqv x y))
@[simp] def oNe : DO := fun a b R => match a, b with
  | .int i, .int j => R (.bl (!decide (i = j)))
  | .str i, .str j => R (.bl (!decide (i = j)))
  | .bl i, .bl j => R (.bl (!decide (i = j)))
  | a, b => ∃ x y, pyE a = some x ∧ pyE b = some y ∧ SeqAt.shaped x = true ∧ SeqAt.shaped y = true ∧ R (.bl (!PyData.eqv x y))
theorem OpR.or2 {X : Cx} {f : Value → Value → Sem Value} {r r' : R2} (h : OpR X f r) (h' : OpR X f r') : OpR X f (fun x y H Q => r x y H Q ∨ r' x y H Q) := by
  intro pins s σ H x y v u Q I rx ry q
  rcases q with q | q
  · exact h pins s σ H x y v u Q I rx ry q
  · exact h' pins s σ H x y v u Q I rx ry q
theorem c_eq : Cmp F .Eq oEq := ⟨fun x y H Q => rEq x y H Q ∨ rEqD K x y H Q, fun j => OpR.or2 op_eq (by have := op_eqD (X := F.X j) (F.hr j).units; rw [F.hK j] at this; exact this), by
  intro G H x y a b R Q e hx hy h q _
  unfold oEq at h
  split at h
  · cases hx
    cases hy
    refine .inl ⟨rfl, q _ _ h ?_⟩
    simp only [V.int.injEq]
    exact .bl _
  · cases hx
    cases hy
    refine .inl ⟨rfl, q _ _ h ?_⟩
    simp only [V.str.injEq]
    exact .bl _
  · cases hx
    cases hy
    refine .inl ⟨rfl, q _ _ h ?_⟩
    simp only [V.bl.injEq]
    exact .bl _
  · obtain ⟨d, f, h1, h2, h3, h4, h5⟩ := h
    exact .inr ⟨d, f, dp_of e hx h1, dp_of e hy h2, h3, h4, q _ _ h5 (.bl _)⟩⟩
theorem c_ne : Cmp F .NotEq oNe := ⟨fun x y H Q => rNe x y H Q ∨ rNeD K x y H Q, fun j => OpR.or2 op_ne (by have := op_neD (X := F.X j) (F.hr j).units; rw [F.hK j] at this; exact this), by
  intro G H x y a b R Q e hx hy h q _
  unfold oNe at h
  split at h
  · cases hx
    cases hy
    refine .inl ⟨rfl, q _ _ h ?_⟩
    simp only [V.int.injEq]
    exact .bl _
  · cases hx
    cases hy
    refine .inl ⟨rfl, q _ _ h ?_⟩
    simp only [V.str.injEq]
    exact .bl _
  · cases hx
    cases hy
    refine .inl ⟨rfl, q _ _ h ?_⟩
    simp only [V.bl.injEq]
    exact .bl _
  · obtain ⟨d, f, h1, h2, h3, h4, h5⟩ := h
    exact .inr ⟨d, f, dp_of e hx h1, dp_of e hy h2, h3, h4, q _ _ h5 (.bl _)⟩⟩
/-! is None, is True -/
@[simp] def isNone : D → Bool
  | .non => true
  | _ => false
@[simp] def oIsN (n : Bool) : DO := fun a b R => match b with
  | .non => R (.bl (n != isNone a))
  | _ => False
theorem vd_non {G : Hp} {v : V} {d : D} (h : Vd G v d) : decide (v = .non) = isNone d := by
  cases h <;> simp
theorem is_non : Cmp F .Is (oIsN false) := ⟨_, fun _ => op_isN, by
  intro G H x y a b R Q e hx hy h q _
  unfold oIsN at h
  split at h
  · cases hy
    refine ⟨rfl, ?_⟩
    rw [vd_non hx]
    exact q _ _ (by simpa using h) (.bl _)
  · exact h.elim⟩
theorem isnot_non : Cmp F .IsNot (oIsN true) := ⟨_, fun _ => op_notN, by
  intro G H x y a b R Q e hx hy h q _
  unfold oIsN at h
  split at h
  · cases hy
    refine ⟨rfl, ?_⟩
    rw [vd_non hx]
    exact q _ _ (by simpa using h) (.bl _)
  · exact h.elim⟩
@[simp] def oIsB (n : Bool) : DO := fun a b R => match a, b with
  | .bl x, .bl y => R (.bl (n != decide (x = y)))
  | _, _ => False
theorem is_bl : Cmp F .Is (oIsB false) := ⟨_, fun _ => op_is_bl, by
  intro G H x y a b R Q e hx hy h q _
  unfold oIsB at h
  split at h
  · cases hx
    cases hy
    exact ⟨_, _, rfl, rfl, q _ _ (by simpa using h) (.bl _)⟩
  · exact h.elim⟩
theorem isnot_bl : Cmp F .IsNot (oIsB true) := ⟨_, fun _ => op_isnot_bl, by
  intro G H x y a b R Q e hx hy h q _
  unfold oIsB at h
  split at h
  · cases hx
    cases hy
    exact ⟨_, _, rfl, rfl, q _ _ (by simpa using h) (.bl _)⟩
  · exact h.elim⟩
/-! ### ints of the module; -x; x ** y -/
theorem e_gint {x : Str} {pos} {i : Int} (h : ∃ t, mg x = some (.int i t)) (hg : ∀ j, Gl (F.X j) x) (hdb : (x == ("__debug__" : Str)) = false := by decide) : ED M F (.Name x pos) (dC (.int i)) := by
  obtain ⟨t, h⟩ := h
  exact e_c (v := .int i) (fun j => pe_glob (hg j) (by rw [F.hm j]; exact h) ⟨t, rfl⟩ hdb) fun _ => .int i
@[simp] def dNeg (φ : DE) : DE := fun s R => φ s fun d s1 => match d with
  | .int i => R (.int (-i)) s1
  | _ => False
theorem e_neg {e : Expr} {pos} {φ : DE} (h : ED M F e φ) : ED M F (.UnaryOp .USub e pos) (dNeg φ) := by
  obtain ⟨t, p, a⟩ := h
  refine ⟨_, fun j => pe_un un_neg (p j), fun s σ G H R Q rel h q => ?_⟩
  refine a s σ G H _ _ rel h fun d s1 v G1 H1 h1 r1 g1 hv => ?_
  split at h1
  · cases hv
    exact ⟨_, rfl, q _ _ _ _ _ h1 r1 g1 (.int _)⟩
  · exact h1.elim
theorem e_pow {x y : Expr} {pos} {φ ψ : DE} (h1 : ED M F x φ) (h2 : ED M F y ψ) : ED M F (.BinOp x .Pow y pos) (dOp (oI CPow fun i j => .int (i ^ j.toNat)) φ ψ) := e_op (fun _ => op_pow) (o_I fun _ _ _ => .int _) h1 h2
/-! ### tuples: +, * -/
@[simp] def oCatT : DO := fun a b R => match a, b with
  | .tup xs, .tup ys => xs ≠ [] ∧ xs.length + ys.length ≤ 10000 ∧ R (.tup (xs ++ ys))
  | _, _ => False
theorem o_catT : OSound (rCatT K) oCatT := by
  intro G H x y a b R Q e hx hy h q q2
  unfold oCatT at h
  split at h
  · rename_i xs ys
    obtain ⟨h1, h2, h3⟩ := h
    cases hx with
    | @tup p vs _ hp hv =>
      cases hy with
      | @tup p2 us _ hp2 hu =>
        refine ⟨p, p2, vs, us, rfl, rfl, .inl (.inl (e _ _ hp)), .inl (.inl (e _ _ hp2)), fun z => h1 ?_, by rw [hv.len, hu.len, sizeLine_eq]; omega, fun z => ?_, fun _ l hl => q2 _ _ l _ h3 hl (fun G' eg hl' => .tup hl' (Vds.mono eg (hv.app hu))) rfl⟩
        · have := hv.len
          rw [z] at this
          exact List.eq_nil_of_length_eq_zero this.symm
        · have := hu.len
          rw [z] at this
          rw [List.eq_nil_of_length_eq_zero this.symm, List.append_nil] at h3
          exact q _ _ h3 (.tup hp hv)
  · exact h.elim
theorem e_catT {x y : Expr} {pos} {φ ψ : DE} (h1 : ED M F x φ) (h2 : ED M F y ψ) : ED M F (.BinOp x .Add y pos) (dOp oCatT φ ψ) := e_op (fun j => by have := op_catT (X := F.X j); rw [F.hK j] at this; exact this) o_catT h1 h2
/-! ### lists of one's own -/
theorem set_self {σ : L2.St} {i : Nat} {ov : Option V} (h : σ[i]? = some ov) : σ.set i ov = σ := by
  refine List.ext_getElem? fun j => ?_
  rw [List.getElem?_set]
  by_cases e : i = j
  · rw [if_pos e, ← e, h, if_pos (List.getElem?_eq_some_iff.mp h).1]
  · rw [if_neg e]
theorem Rel.put {s : S} {σ : L2.St} {G H : Hp} (R : Rel M s σ G H) {i : Nat} {ds es : OD} {a : Addr} {o' : HO} (hi : s.sl[i]? = some (.own ds)) (ha : σ[i]? = some (some (.ref a))) (hu : OV G es o') : Rel M (s.set i (.own es)) σ G (upd H a o') := by
  obtain ⟨b, vs, e1, e2, e3, e4, e5, e6⟩ := R.getO hi
  rw [ha] at e1
  cases e1
  have R1 : Rel M s σ G H := R
  refine ⟨ex_put R.ex e4, fun b hb hn => ?_, fun p L e => ?_, ⟨tabs_keep R.tab.1 (fun b ps e => (upd_ne fun z => by
      rw [z, e2] at e
      exact e3.tbl ps (Option.some.inj e)).trans e) (Ex.rf _), R.tab.2⟩, by simp [S.set, R.len], fun j x ov h1 h2 => ?_, fun j l ds' es' b h1 h2 h3 h4 => ?_⟩
  · have ne : b ≠ a := fun z => hb (by rw [z]; exact e5)
    exact ⟨(upd_ne ne).trans (R.fr b hb hn).1, (R.fr b hb hn).2⟩
  · exact ⟨(R.pen p L e).1.put (e6.1 p L e).1 (e6.1 p L e).2, (R.pen p L e).2⟩
  · have h1 : (s.sl.set i (.own es))[j]? = some x := h1
    rw [List.getElem?_set] at h1
    by_cases e : i = j
    · rw [if_pos e] at h1
      split at h1
      · cases h1
        rw [← e, ha] at h2
        cases h2
        exact ⟨a, o', rfl, upd_at, hu, e4, e5, e6⟩
      · cases h1
    · rw [if_neg e] at h1
      have kk := R.sl j x ov h1 h2
      cases x with
      | no => exact kk
      | d x => exact kk
      | own fs =>
        obtain ⟨b, ws, w1, w2, w3⟩ := kk
        have ne : b ≠ a := fun z => e (R.inj i j ds fs a hi h1 ha (by rw [h2, w1, z]))
        exact ⟨b, ws, w1, (upd_ne ne).trans w2, w3⟩
      | pen => exact kk
  · have low : ∀ {j : Nat} {fs : OD}, (s.sl.set i (.own es))[j]? = some (.own fs) → ∃ gs, s.sl[j]? = some (.own gs) := fun {j fs} h => by
      rw [List.getElem?_set] at h
      by_cases e : i = j
      · rw [← e]; exact ⟨ds, hi⟩
      · rw [if_neg e] at h; exact ⟨fs, h⟩
    obtain ⟨g1, k1⟩ := low h1
    obtain ⟨g2, k2⟩ := low h2
    exact R.inj j l g1 g2 b k1 k2 h3 h4
@[simp] def dAppend (i : Nat) (φ : DE) : DS := fun s E => (match s.sl[i]? with
  | some (.own (.l _)) => True
  | _ => False) ∧ φ s fun d s1 => match s1.sl[i]? with
  | some (.own (.l ds)) => ds.length < 10000 ∧ E.nx (s1.set i (.own (.l (ds ++ [d]))))
  | _ => False
theorem s_append (i : Nat) {o e : Expr} {apos cpos pos : Pos} {φ : DE} (hv : ∀ j, PE (F.X j) o (tVar i)) (he : ED M F e φ) (hb : ∀ j, attributeBase o "append" (F.X j).env (eval o (F.X j).env) = eval o (F.X j).env := by intro _; rfl)
    (hfew : ∀ j, ((backTo cpos (starEach [e] (F.X j).env)).all (fun x => !x.1) && (backToKw cpos (keywordEach [] (F.X j).env)).all (fun x => x.1.isSome) && decide (([e] : List Expr).length + ([] : List Keyword).length + (if ([] : List Keyword).isEmpty then 0 else 1) < 30)) = true := by intro _; rfl)
    (hline : (apos.endLine == cpos.line) = true := by rfl) (hs : ∀ j, starEach [e] (F.X j).env = (false, eval e (F.X j).env) :: starEach [] (F.X j).env := by intro _; rfl) (hpl : ∀ j, (backTo cpos (starEach [] (F.X j).env)).any (·.1) = false := by intro _; rfl)
    (hsw : ∀ j, swapsWith (.Call (.Attribute o "append" apos) [e] [] cpos) none pos.line (F.X j).env = pure false := by intro _; rfl) : SD M F (.Expr (.Call (.Attribute o "append" apos) [e] [] cpos) pos) (dAppend i φ) := by
  obtain ⟨t, p, a⟩ := he
  refine ⟨tDrop (tBM K "list" rAppend (tVar i) (tCons t tNil)), fun j => ps_expr (by
    have := pe_bm (apos := apos) (cpos := cpos) PySem.F.plainAttrs_list PySem.F.slot_list_append PySem.F.type_list_append mt_append (hv j) (pa_cons (p j) pa_nil (hs j)) (hb j) (hfew j) hline (hs j) (hpl j)
    rw [F.hK j] at this
    exact this) (hsw j), fun s σ G H E Dn rel h e => ?_⟩
  obtain ⟨h0, h⟩ := h
  split at h0
  · rename_i ds0 hi0
    obtain ⟨x, vs0, x1, x2, x3, _⟩ := rel.getL hi0
    refine ⟨_, x1, .inl ⟨rfl, _, .inl (.inl x2)⟩, ?_⟩
    refine a s σ G H _ _ rel h fun d s1 v G1 H1 h1 r1 g1 hv => ?_
    split at h1
    · rename_i ds hi
      obtain ⟨y, vs, y1, y2, y3, _⟩ := r1.getL hi
      rw [x1] at y1
      cases y1
      exact ⟨x, vs, v, rfl, rfl, y2, by rw [y3.len, sizeLine_eq]; have := h1.1; omega, e.nx _ _ _ _ h1.2 (r1.put hi x1 ⟨_, rfl, y3.snoc hv⟩) g1.ex⟩
    · exact h1.elim
  · exact h0.elim
/-- left.pop(e) -/
@[simp] def dPop (i : Nat) (φ : DE) : DE := fun s R => (match s.sl[i]? with
  | some (.own (.l _)) => True
  | _ => False) ∧ φ s fun d s1 => match d, s1.sl[i]? with
  | .int n, some (.own (.l ds)) => 0 ≤ n ∧ n < 10000 ∧ ∃ y, ds[n.toNat]? = some y ∧ R y (s1.set i (.own (.l (ds.eraseIdx n.toNat))))
  | _, _ => False
theorem Vds.erase {G : Hp} : ∀ {ds : List D} {vs : List V}, Vds G vs ds → ∀ n : Nat, Vds G (vs.eraseIdx n) (ds.eraseIdx n)
  | _, _, .nil, _ => .nil
  | _, _, .cons h t, 0 => t
  | _, _, .cons h t, n + 1 => .cons h (t.erase n)
/-- freeze: a list of one's own stands for good from here -/
@[simp] def dFrz (i : Nat) (ψ : DS) : DS := fun s E => match s.sl[i]? with
  | some (.own (.l ds)) => ψ (s.set i (.d (.lst ds))) E
  | _ => False
theorem s_frz (i : Nat) {body : List Stmt} {ψ : DS} (h : SDs M F body ψ) : SDs M F body (dFrz i ψ) := by
  obtain ⟨t, p, a⟩ := h
  refine ⟨t, p, fun s σ G H E Dn rel h e => ?_⟩
  unfold dFrz at h
  split at h
  · rename_i ds hi
    obtain ⟨x, vs, x1, x2, x3, x4, x5, x6⟩ := rel.getL hi
    have eg := ex_new (o := .lst vs) x4
    have nm : Rel M (s.set i .no) (σ.set i (some (.ref x))) G H := rel.setN
    rw [set_self x1] at nm
    have fx : Rel M (s.set i .no) σ (upd G x (.lst vs)) H := nm.fix x2 x4 x5 x6 fun j es hj ej => by
      have hj : (s.sl.set i .no)[j]? = some (.own es) := hj
      rw [List.getElem?_set] at hj
      by_cases z : i = j
      · rw [if_pos z] at hj
        split at hj <;> cases hj
      · rw [if_neg z] at hj
        exact z (rel.inj i j (.l ds) es x hi hj x1 ej)
    have st : Rel M ((s.set i .no).set i (.d (.lst ds))) (σ.set i (some (.ref x))) (upd G x (.lst vs)) H := fx.setD (.lst upd_at (Vds.mono eg x3))
    rw [set_self x1] at st
    have e2 : (s.set i .no).set i (.d (.lst ds)) = s.set i (.d (.lst ds)) := by simp [S.set]
    rw [e2] at st
    exact a _ σ _ H _ _ st h (e.up eg)
  · exact h.elim
end
end DL
namespace DL
open PySem PySem.Spec PyProof.Rows L2
/-! ### own errors -/
/-- Base.__init__(self, ..), Base an own class over ValueError without an __init__ -/
theorem pe_binit {X : Cx} {x : Str} {B : Addr} {e : Expr} {es : List Expr} {ta : TA} {p1 p2 pos : Pos} {pl : Sem Bool} (hg : Gl X x) (hm : X.mg x = some (.ref B)) (hrd : PySem.W.readsIn X.K B (.type "type") = true) (hga : PySem.W.specialIn X.K (.ref B) "__getattribute__" = some (some (.builtin "type.__getattribute__")))
    (vV : PySem.W.findCls X.K (.ref B) (.type "type") "__init__" = some (.val (.builtin "ValueError.__init__"))) (ha : PA X (e :: es) ta)
    (hc : eval (.Call (.Attribute (.Name x p1) "__init__" p2) (e :: es) [] pos) X.env = (do
      let ov ← eval (.Name x p1) X.env
      standAt p2.atName
      let (f, first) ← holding [ov] (getMethod ov "__init__" pl)
      callWith pos f first (backTo pos (starEach (e :: es) X.env)) (backToKw pos (keywordEach [] X.env))) := by rfl)
    (hdb : (x == ("__debug__" : Str)) = false := by decide) (he : starEach (e :: es) X.env = (false, eval e X.env) :: starEach es X.env := by rfl) (hpl : (backTo pos (starEach es X.env)).any (·.1) = false := by rfl) :
    PE X (.Call (.Attribute (.Name x p1) "__init__" p2) (e :: es) [] pos) (tVeI X.K ta) := by
  refine ⟨fun pins s σ H Q I h => ?_⟩
  refine PySem.W.methodCall_KW (ld_glob I hg hm ?_ hdb) hc
  refine PySem.W.method_cls I.kIn hga (PySem.W.cls_value I.kIn hrd vV (by decide +kernel) ?_)
  show wpAny _ _ (callWith pos (Value.builtin "ValueError.__init__") [] (backTo pos (starEach (e :: es) X.env)) []) _ _ _
  refine PyProof.Rows.callWith_method1 (thn (ha.run pos pins _ σ H _ (I.tok _) h) fun us s1 ⟨vs, H1, I1, r1, a, C, ws, ev, hl, T, ea, q⟩ => ?_) he hpl
  subst ev
  cases r1 with
  | @cons _ u0 _ ur ra rw' =>
    obtain rfl : u0 = Value.ref a := ra
    have hlen : ur.length ≤ sizeLine := by
      rw [← Paired.length rw', sizeLine_eq]
      omega
    exact oinit_ok T I1 ea hlen fun s' J => ⟨.non, H1, J, rfl, q⟩
/-- what an own error's __init__ does: its fields, in order -/
def Fin (H : Hp) (a C d : Addr) (fs : List (Str × V)) (H' : Hp) : Prop := H' a = some (exo a C (some d)) ∧ H' d = some (exd d fs) ∧ ∀ b, b ≠ a → b ≠ d → H' b = H b
def spE (K : PySem.W.Frag) (C : Addr) (fls : List Str) : Sp := fun vs H Q _ => ∃ (a : Addr) (ys : List V), vs = .ref a :: ys ∧ ys.length = fls.length ∧ OexC K C ∧ (∀ f ∈ fls, PySem.W.findIn K (.ref C) f = some none) ∧ H a = some (exo a C none) ∧
  ∀ d H', H d = none → d ≠ a → Fin H a C d (fls.zip ys).reverse H' → Q .non H'
section
variable {K : PySem.W.Frag} {C : Addr} {f1 f2 f3 : Str} {z : Str} {vs : List V} {H : Hp} {Q : VK} {E : XK}
abbrev tVe (K : PySem.W.Frag) (z : Str) : TS := tDrop (tVeI K (tCons (tVar 0) (tCons (tC (.str z)) tNil)))
theorem fin1 {a d : Addr} {y : V} (hd : H d = none) (na : d ≠ a) : Fin H a C d [(f1, y)] (upd (upd H d (exd d [(f1, y)])) a (exo a C (some d))) :=
  ⟨upd_at, (upd_ne na).trans upd_at, fun b h1 h2 => (upd_ne h1).trans (upd_ne h2)⟩
theorem Fin.more {a d : Addr} {y : V} {fs : List (Str × V)} {H' : Hp} {f : Str} (na : d ≠ a) (h : Fin H a C d fs H') : Fin H a C d ((f, y) :: fs) (upd H' d (exd d ((f, y) :: fs))) :=
  ⟨(upd_ne na.symm).trans h.1, upd_at, fun b h1 h2 => (upd_ne h2).trans (h.2.2 b h1 h2)⟩
theorem semE1 (h : spE K C [f1] vs H Q E) : tSeq (tVe K z) (tOst K f1 (tVar 0) (tVar 1)) { nx := fun _ H' => Q .non H', rt := Q } (L2.start ["self", f1] vs) H := by
  obtain ⟨a, ys, rfl, hl, T, no, ha, q⟩ := h
  match ys, hl with
  | [y], _ =>
    refine ⟨_, rfl, a, C, [.str z], rfl, (show (1 : Nat) ≤ 1000 by decide), T, ha, ?_⟩
    exact ⟨_, rfl, _, rfl, a, C, rfl, T, no f1 (by simp), .inl ⟨ha, fun d hd na => q d _ hd na (fin1 hd na)⟩⟩
theorem semE2 (h : spE K C [f1, f2] vs H Q E) : tSeq (tVe K z) (tSeq (tOst K f1 (tVar 0) (tVar 1)) (tOst K f2 (tVar 0) (tVar 2))) { nx := fun _ H' => Q .non H', rt := Q } (L2.start ["self", f1, f2] vs) H := by
  obtain ⟨a, ys, rfl, hl, T, no, ha, q⟩ := h
  match ys, hl with
  | [y, y2], _ =>
    refine ⟨_, rfl, a, C, [.str z], rfl, (show (1 : Nat) ≤ 1000 by decide), T, ha, ?_⟩
    refine ⟨_, rfl, _, rfl, a, C, rfl, T, no f1 (by simp), .inl ⟨ha, fun d hd na => ?_⟩⟩
    have fi := fin1 (C := C) (f1 := f1) (y := y) hd na
    exact ⟨_, rfl, _, rfl, a, C, rfl, T, no f2 (by simp), .inr ⟨d, _, fi.1, fi.2.1, by simp, q d _ hd na (fi.more na)⟩⟩
theorem semE3 (h : spE K C [f1, f2, f3] vs H Q E) : tSeq (tVe K z) (tSeq (tOst K f1 (tVar 0) (tVar 1)) (tSeq (tOst K f2 (tVar 0) (tVar 2)) (tOst K f3 (tVar 0) (tVar 3)))) { nx := fun _ H' => Q .non H', rt := Q } (L2.start ["self", f1, f2, f3] vs) H := by
  obtain ⟨a, ys, rfl, hl, T, no, ha, q⟩ := h
  match ys, hl with
  | [y, y2, y3], _ =>
    refine ⟨_, rfl, a, C, [.str z], rfl, (show (1 : Nat) ≤ 1000 by decide), T, ha, ?_⟩
    refine ⟨_, rfl, _, rfl, a, C, rfl, T, no f1 (by simp), .inl ⟨ha, fun d hd na => ?_⟩⟩
    have fi := fin1 (C := C) (f1 := f1) (y := y) hd na
    refine ⟨_, rfl, _, rfl, a, C, rfl, T, no f2 (by simp), .inr ⟨d, _, fi.1, fi.2.1, by simp, ?_⟩⟩
    have fj := fi.more (f := f2) (y := y2) na
    exact ⟨_, rfl, _, rfl, a, C, rfl, T, no f3 (by simp), .inr ⟨d, _, fj.1, fj.2.1, by simp, q d _ hd na (fj.more na)⟩⟩
end
section
variable {P : Program} {w : World} {K : PySem.W.Frag} {mg : Str → Option Value} {base : Heap} {k : Nat} {M : Cm} {F : Fam P w K mg base k}
/-- raise C(e, ..) -/
@[simp] def dRaise (C : Addr) (fls : List Str) (RX : DX → Int → Prop) (ψ : DA) : DS := fun s _ => ψ s fun ds s1 => ds.length = fls.length ∧ fls.length ≤ 900 ∧ RX ⟨C, fls, ds⟩ s1.c
/-- an own error's class and its __init__ -/
structure Err (P : Program) (w : World) (K : PySem.W.Frag) (mg : Str → Option Value) (base : Heap) (x : Str) (C : Addr) (fls : List Str) : Prop where
  gl : mg x = some (.ref C)
  cls : OexC K C
  ini : ∃ fI fd, PySem.W.findIn K (.ref C) "__init__" = some (some (.ref fI)) ∧ PySem.W.typeIn K (.ref fI) = some (.type "function") ∧ FnOk P w K mg base CX0 1 fI fd ("self" :: fls) (spE K C fls) ∧ Binds K fd ("self" :: fls) []
  no : ∀ f ∈ fls, PySem.W.findIn K (.ref C) f = some none
theorem s_raise {x : Str} {C : Addr} {fls : List Str} {e : Expr} {es : List Expr} {p pos rpos : Pos} {ψ : DA} {RX : DX → Int → Prop} (T : Err P w K mg base x C fls) (hk : 2 ≤ k) (ha : EA M F (e :: es) ψ) (hE : XS M F.E RX) (ni : Nice M) (tk : ∀ j, Takes (F.X j) (fun cls d _ H => F.E cls d H)) (hg : ∀ j, Gl (F.X j) x)
    (hdb : (x == ("__debug__" : Str)) = false := by decide) (he : ∀ j, starEach (e :: es) (F.X j).env = (false, eval e (F.X j).env) :: starEach es (F.X j).env := by intro _; rfl) (hpl : ∀ j, (backTo pos (starEach es (F.X j).env)).any (·.1) = false := by intro _; rfl) :
    SD M F (.Raise (some (.Call (.Name x p) (e :: es) [] pos)) none rpos) (dRaise C fls RX ψ) := by
  obtain ⟨t, q, a⟩ := ha
  obtain ⟨fI, fd, i1, i2, Fn, bd⟩ := T.ini
  refine ⟨fun _ σ H => tMkO C (spE K C fls) [] t σ H fun cls d H' => F.E cls d H', fun j => ?_, fun s σ G H E Dn rel h en => ?_⟩
  · have Fn' : FnOk (F.X j).prog (F.X j).w (F.X j).K (F.X j).mg (F.X j).base CX0 1 fI fd ("self" :: fls) (spE K C fls) := by rw [F.hP j, F.hw j, F.hK j, F.hm j, F.hb j]; exact Fn
    exact ps_raise (F.hc j) (tk j) (pmk_oex (by rw [F.hK j]; exact T.cls) (by rw [F.hK j]; exact i1) (by rw [F.hK j]; exact i2) Fn' ((F.hr j).mono hk) (by rw [F.hK j]; exact bd) .nil pass0 (hg j) (by rw [F.hm j]; exact T.gl) (q j) hdb (he j) (hpl j))
  · refine a s σ G H _ _ rel h fun ds s1 vs G1 H1 h1 r1 g1 hvs => ?_
    obtain ⟨l1, l2, h1⟩ := h1
    have lv := hvs.len
    refine ⟨by omega, fun b hb => ⟨b, vs, by simp, by omega, T.cls, T.no, upd_at, fun d H' hd nd fi => ⟨rfl, d, _, fi.1, fi.2.1, (upd_ne nd).symm.trans hd, ?_⟩⟩⟩
    have hd1 : H1 d = none := (upd_ne nd).symm.trans hd
    have eq : upd (del H' b) d (.xd (fls.zip vs).reverse) = upd H1 d (.xd (fls.zip vs).reverse) := by
      funext c
      by_cases c1 : c = d
      · subst c1
        rw [upd_at, upd_at]
      · rw [upd_ne c1, upd_ne c1]
        by_cases c2 : c = b
        · subst c2
          rw [del_same, hb]
        · rw [del_ne c2, fi.2.2 c c2 c1, upd_ne c2]
    rw [eq]
    exact hE _ _ _ _ G1 _ h1 ((r1.lay hd1).frOk ni) ⟨rfl, d, vs, rfl, upd_at, (show fls.length = vs.length by omega), hvs⟩
end
end DL
namespace DL
open PySem PySem.Spec PyProof.Rows L2
section
variable {P : Program} {w : World} {K : PySem.W.Frag} {mg : Str → Option Value} {base : Heap} {k : Nat} {M : Cm} {F : Fam P w K mg base k}
/-! ### enumerate, zip -/
@[simp] def enL : Nat → List D → List D
  | _, [] => []
  | n, d :: ds => .tup [.int n, d] :: enL (n + 1) ds
theorem enL_len : ∀ (ds : List D) (n : Nat), (enL n ds).length = ds.length
  | [], _ => rfl
  | d :: ds, n => congrArg Nat.succ (enL_len ds (n + 1))
theorem enL_get : ∀ (ds : List D) (n i : Nat) (d : D), ds[i]? = some d → (enL n ds)[i]? = some (.tup [.int ((n + i : Nat) : Int), d])
  | [], _, i, d, h => by cases h
  | d :: ds, n, 0, e, h => by cases h; rfl
  | d :: ds, n, i + 1, e, h => by
    have := enL_get ds (n + 1) i e h
    have e2 : n + 1 + i = n + (i + 1) := by omega
    rw [e2] at this
    exact this
theorem over_enT {G : Hp} {a : Addr} {vs : List V} {ds : List D} (ha : G a = some (.tup vs)) (hv : Vds G vs ds) : Over (IteT K a) G (enL 0 ds) := by
  intro G' H' e e2
  have q : SqT K H' a vs := .inl (.inl (e2 _ _ (e _ _ ha)))
  rw [enL_len]
  refine ⟨fun i hi => ?_, vs, q, by rw [hv.len]; exact Nat.le_refl _⟩
  obtain ⟨d, hd, v, hv1, hv2⟩ := vds_at hv hi
  refine ⟨⟨vs, v, q, hv1⟩, fun x H'' y => ⟨_, enL_get ds 0 i d hd, .inr ?_⟩⟩
  obtain ⟨T, x', rfl, hT, rfl, y⟩ := y
  have := y vs q
  rw [hv1] at this
  cases this
  refine ⟨T, _, hT, rfl, .tup upd_at (.cons ?_ (.cons (Vd.mono (e.tr (ex_new (ex_none e2 hT))) hv2) .nil))⟩
  rw [Nat.zero_add]
  exact .int _
theorem over_enL {G : Hp} {a : Addr} {vs : List V} {ds : List D} (ha : G a = some (.lst vs)) (hv : Vds G vs ds) : Over (Ite K a) G (enL 0 ds) := by
  intro G' H' e e2
  have q : SqL K H' a vs := .inl (.inl (e2 _ _ (e _ _ ha)))
  rw [enL_len]
  refine ⟨fun i hi => ?_, vs, q, by rw [hv.len]; exact Nat.le_refl _⟩
  obtain ⟨d, hd, v, hv1, hv2⟩ := vds_at hv hi
  refine ⟨⟨vs, v, q, hv1⟩, fun x H'' y => ⟨_, enL_get ds 0 i d hd, .inr ?_⟩⟩
  obtain ⟨T, x', rfl, hT, rfl, y⟩ := y
  have := y vs q
  rw [hv1] at this
  cases this
  refine ⟨T, _, hT, rfl, .tup upd_at (.cons ?_ (.cons (Vd.mono (e.tr (ex_new (ex_none e2 hT))) hv2) .nil))⟩
  rw [Nat.zero_add]
  exact .int _
@[simp] def dEnT (ψ : DA) : DA := fun s R => ψ s fun ds s1 => match ds with
  | [.tup xs] => R (enL 0 xs) s1
  | _ => False
@[simp] def dEnL (ψ : DA) : DA := fun s R => ψ s fun ds s1 => match ds with
  | [.lst xs] => R (enL 0 xs) s1
  | _ => False
theorem id_enum {e : Expr} {p pos tpos : Pos} {elts : List Expr} {kk : Nat} {ψ : DA} (h : EA M F [e] ψ) (hg : ∀ j, Gl (F.X j) "enumerate") (hm : mg "enumerate" = none) (hs : ∀ j, starEach [e] (F.X j).env = [(false, eval e (F.X j).env)] := by intro _; rfl) :
    ID M F (.Tuple elts kk tpos) (.Call (.Name "enumerate" p) [e] [] pos) (dEnT ψ) := by
  obtain ⟨t, q, b⟩ := h
  refine ⟨iEnT K t, fun j => by have := pi_ent (p := p) (pos := pos) (tpos := tpos) (elts := elts) (kk := kk) (hg j) (by rw [F.hm j]; exact hm) (q j) (hs j); rw [F.hK j] at this; exact this, fun s σ G H R Q rel h q => ?_⟩
  refine b s σ G H _ _ rel h fun ds s1 vs G1 H1 h1 r1 g1 hvs => ?_
  split at h1
  · cases hvs with
    | cons a t =>
      cases t
      cases a with
      | @tup x us _ hp hv => exact ⟨x, us, rfl, .inl (.inl (r1.ex _ _ hp)), q _ _ _ _ _ h1 r1 g1 (over_enT hp hv)⟩
  · exact h1.elim
theorem id_enumL {e : Expr} {p pos tpos : Pos} {elts : List Expr} {kk : Nat} {ψ : DA} (h : EA M F [e] ψ) (hg : ∀ j, Gl (F.X j) "enumerate") (hm : mg "enumerate" = none) (hs : ∀ j, starEach [e] (F.X j).env = [(false, eval e (F.X j).env)] := by intro _; rfl) :
    ID M F (.Tuple elts kk tpos) (.Call (.Name "enumerate" p) [e] [] pos) (dEnL ψ) := by
  obtain ⟨t, q, b⟩ := h
  refine ⟨iEnum K t, fun j => by have := pi_enum (p := p) (pos := pos) (tpos := tpos) (elts := elts) (kk := kk) (hg j) (by rw [F.hm j]; exact hm) (q j) (hs j); rw [F.hK j] at this; exact this, fun s σ G H R Q rel h q => ?_⟩
  refine b s σ G H _ _ rel h fun ds s1 vs G1 H1 h1 r1 g1 hvs => ?_
  split at h1
  · cases hvs with
    | cons a t =>
      cases t
      cases a with
      | @lst x us _ hp hv => exact ⟨x, us, rfl, .inl (.inl (r1.ex _ _ hp)), q _ _ _ _ _ h1 r1 g1 (over_enL hp hv)⟩
  · exact h1.elim
/-! ### target = value; unpacking a list -/
@[simp] def dAsg (φ : DE) (γ : D → S → (S → Prop) → Prop) : DS := fun s E => φ s fun d s1 => γ d s1 E.nx
theorem s_asg {vs : List Nat} {tg e : Expr} {pos : Pos} {φ : DE} {γ : D → S → (S → Prop) → Prop} (he : ED M F e φ) (hg : GD M F vs tg γ) (hs : ∀ j, swapsWithSole [tg] e pos.line (F.X j).env = pure false := by intro _; rfl) (hw : ∀ j, swappedStores [tg] e (F.X j).env = pure none := by intro _; rfl) (h1 : ∀ j, (assignEach [tg] (F.X j).env).map (·.2) = [assign tg (F.X j).env] := by intro _; rfl) : SD M F (.Assign [tg] e pos) (dAsg φ γ) := by
  obtain ⟨t, p, a⟩ := he
  obtain ⟨g, p2, b⟩ := hg
  refine ⟨_, fun j => ps_asg (p j) (p2 j) (hs j) (hw j) (h1 := h1 j), fun s σ G H E Dn rel h en => ?_⟩
  refine a s σ G H _ _ rel h fun d s1 v G1 H1 h1 r1 g1 hv => ?_
  exact b v d s1 σ G1 H1 _ _ r1 hv h1 fun s2 σ2 h2 r2 _ _ => en.nx _ _ _ _ h2 r2 g1.ex
@[simp] def gLs (n : Nat) (δ : List D → S → (S → Prop) → Prop) : D → S → (S → Prop) → Prop := fun d s R => match d with
  | .lst ds => ds.length = n ∧ δ ds s R
  | _ => False
theorem g_unl {vs : List Nat} {es : List Expr} {kk : Nat} {pos : Pos} {δ : List D → S → (S → Prop) → Prop} (n : Nat) (h : GsD M F vs es δ) (hn : ∀ j, (assignEach es (F.X j).env).length = n := by intro _; rfl) (hst : ∀ j, (assignEach es (F.X j).env).findIdx? (·.1) = none := by intro _; rfl) :
    GD M F vs (.Tuple es kk pos) (gLs n δ) := by
  obtain ⟨t, p, a⟩ := h
  refine ⟨gUnl K n t, fun j => by have := pg_unl (k := kk) (pos := pos) (F.hc j) (p j) (hn j) (hst j); rw [F.hK j] at this; exact this, fun v d s σ G H R Q rel hv h q => ?_⟩
  unfold gLs at h
  split at h
  · cases hv with
    | @lst x us ds hx hvs => exact ⟨x, us, rfl, .inl (.inl (rel.ex _ _ hx)), by rw [hvs.len]; exact h.1, a _ _ s σ G H _ _ rel hvs h.2 q⟩
  · exact h.elim
/-! ### a, b = x, y -/
def FrV (M : Cm) (s : S) (σ : L2.St) (G H : Hp) : Slot → V → Prop
  | .d x, v => Vd G v x
  | .own ds, v => ∃ a o, v = .ref a ∧ H a = some o ∧ OV G ds o ∧ G a = none ∧ M.H0 a = none ∧ OwnOk M a ∧ ∀ (i : Nat) (es : OD), s.sl[i]? = some (.own es) → σ[i]? ≠ some (some (.ref a))
  | _, _ => False
abbrev DP := S → (Slot → S → Prop) → Prop
def PSnd (M : Cm) (t : TE) (φ : DP) : Prop := ∀ (s : S) (σ : L2.St) (G H : Hp) (R : Slot → S → Prop) (Q : VK), Rel M s σ G H → φ s R → (∀ x s' v G' H', R x s' → Rel M s' σ G' H' → Go M σ s G H s' G' H' → FrV M s' σ G' H' x v → (∀ ds, x = .own ds → ∃ a, v = .ref a ∧ H a = none) → Q v H') → t σ H Q
variable (M F) in
def EP (e : Expr) (φ : DP) : Prop := ∃ t, (∀ i, PE (F.X i) e t) ∧ PSnd M t φ
@[simp] def pD (φ : DE) : DP := fun s R => φ s fun d s1 => R (.d d) s1
@[simp] def pO (φ : DA) : DP := fun s R => φ s fun ds s1 => R (.own (.l ds)) s1
theorem p_d {e : Expr} {φ : DE} (h : ED M F e φ) : EP M F e (pD φ) := by
  obtain ⟨t, p, a⟩ := h
  exact ⟨t, p, fun s σ G H R Q rel h q => a s σ G H _ _ rel h fun d s1 v G1 H1 h1 r1 g1 hv => q _ _ _ _ _ h1 r1 g1 hv fun ds e => nomatch e⟩
theorem p_own {e : Expr} {φ : DA} (h : EL M F e φ) : EP M F e (pO φ) := by
  obtain ⟨t, p, a⟩ := h
  exact ⟨t, p, fun s σ G H R Q rel h q => a s σ G H _ _ rel h fun ds s1 x vs G1 H1 h1 r1 g1 hvs hn hx f1 f2 f3 f4 => q _ _ _ _ _ h1 r1 g1 ⟨x, _, rfl, hx, ⟨vs, rfl, hvs⟩, f1, f2, f3, f4⟩ fun _ _ => ⟨x, rfl, hn⟩⟩
@[simp] def dPar (i j : Nat) (φ ψ : DP) : DS := fun s E => φ s fun x s1 => ψ s1 fun y s2 => E.nx ((s2.set i x).set j y)
theorem FrV.set {s : S} {σ : L2.St} {G H : Hp} {x : Slot} {v : V} {i : Nat} (R : Rel M s σ G H) (h : FrV M s σ G H x v) : Rel M (s.set i x) (σ.set i (some v)) G H := by
  cases x with
  | no => exact h.elim
  | pen => exact h.elim
  | d x => exact R.setD h
  | own ds =>
    obtain ⟨a, vs, rfl, h1, h2, h3, h4, h5, h6⟩ := h
    refine R.set ⟨a, vs, rfl, h1, h2, h3, h4, h5⟩ fun es b j fs e1 e2 nj hj => ?_
    cases e2
    exact h6 j fs hj
theorem s_par {i j : Nat} {a b : Expr} {φ ψ : DP} {st : Stmt} (h1 : EP M F a φ) (h2 : EP M F b ψ) (hij : i ≠ j) (hst : ∀ t u : TE, (∀ q, PE (F.X q) a t) → (∀ q, PE (F.X q) b u) → ∀ q, PS (F.X q) st (tPar i j (tCons t (tCons u tNil)))) : SD M F st (dPar i j φ ψ) := by
  obtain ⟨t, p, a⟩ := h1
  obtain ⟨u, p2, b⟩ := h2
  refine ⟨_, hst t u p p2, fun s σ G H E Dn rel h en => ?_⟩
  refine a s σ G H _ _ rel h fun x s1 v G1 H1 h1 r1 g1 fx nx => ?_
  refine b s1 σ G1 H1 _ _ r1 h1 fun y s2 v2 G2 H2 h2 r2 g2 fy ny => ⟨v, v2, rfl, ?_⟩
  -- the first value stands
  have fx2 : FrV M s2 σ G2 H2 x v := by
    cases x with
    | no => exact fx
    | pen => exact fx
    | d x => exact Vd.mono g2.ex fx
    | own ds =>
      obtain ⟨c, vs, rfl, k1, k2, k3, k4, k5, k6⟩ := fx
      obtain ⟨e1, e2⟩ := g2.old c (by rw [k1]; exact fun z => nomatch z) ⟨k5.fr, k6⟩
      refine ⟨c, vs, rfl, e1.trans k1, k2.mono g2.ex, e2.trans k3, k4, k5, fun l es hl => ?_⟩
      obtain ⟨es', hl'⟩ := (g2.own l).mp ⟨es, hl⟩
      exact k6 l es' hl'
  have r3 := fx2.set r2 (i := i)
  have fy3 : FrV M (s2.set i x) (σ.set i (some v)) G2 H2 y v2 := by
    cases y with
    | no => exact fy
    | pen => exact fy
    | d y => exact fy
    | own es =>
      obtain ⟨c, vs, rfl, k1, k2, k3, k4, k5, k6⟩ := fy
      refine ⟨c, vs, rfl, k1, k2, k3, k4, k5, fun l fs hl hz => ?_⟩
      have hl : (s2.sl.set i x)[l]? = some (.own fs) := hl
      rw [List.getElem?_set] at hl hz
      by_cases e : i = l
      · rw [if_pos e] at hl hz
        split at hl
        · cases hl
          split at hz
          · cases hz
            obtain ⟨c1, vs1, e1, w1, _⟩ := fx
            cases e1
            obtain ⟨c2, e2, hn⟩ := ny es rfl
            cases e2
            rw [w1] at hn
            cases hn
          · cases hz
        · cases hl
      · rw [if_neg e] at hl hz
        exact k6 l fs hl hz
  exact en.nx _ _ _ _ h2 (fy3.set r3) (g1.ex.tr g2.ex)
/-- over a variable's value, a list or a tuple -/
@[simp] def dSeqV (i : Nat) : DA := fun s R => match s.sl[i]? with
  | some (.d (.lst ds)) => R ds s
  | some (.d (.tup ds)) => R ds s
  | _ => False
theorem pi_or {X : Cx} {tg e : Expr} {wi wj : TI} (h1 : PI X tg e wi) (h2 : PI X tg e wj) : PI X tg e (fun σ H R => wi σ H R ∨ wj σ H R) := ⟨fun pins s σ H R I h => h.elim (h1.run pins s σ H R I) (h2.run pins s σ H R I)⟩
theorem id_seqV (i : Nat) {tg e : Expr} (h : ∀ j, PE (F.X j) e (tVar i)) : ID M F tg e (dSeqV i) := by
  refine ⟨fun σ H R => iList K (tVar i) σ H R ∨ iTup K (tVar i) σ H R, fun j => by have := pi_or (pi_list (tg := tg) (h j)) (pi_tup (tg := tg) (h j)); rw [F.hK j] at this; exact this, fun s σ G H R Q rel h q => ?_⟩
  unfold dSeqV at h
  split at h
  · rename_i ds hi
    obtain ⟨v, e, hv⟩ := rel.getD hi
    cases hv with
    | @lst x vs ds hx hvs => exact .inl ⟨_, e, x, rfl, ⟨vs, .inl (.inl (rel.ex _ _ hx))⟩, q _ _ _ _ _ h rel Go.rf (over_list hx hvs)⟩
  · rename_i ds hi
    obtain ⟨v, e, hv⟩ := rel.getD hi
    cases hv with
    | @tup x vs ds hx hvs => exact .inr ⟨_, e, x, rfl, ⟨vs, .inl (.inl (rel.ex _ _ hx))⟩, q _ _ _ _ _ h rel Go.rf (over_tup hx hvs)⟩
  · exact h.elim
/-! ### left.pop(e), len of one's own list, list(range(n)), list + list, list * n -/
theorem seqIx {n : Int} {l : Nat} (h0 : 0 ≤ n) (hl : n < l) : seqIndex? n l = some n.toNat := by
  have e : ixN l n = some n.toNat := by
    unfold ixN
    rw [if_pos h0, if_pos hl]
  exact (ixN_seq e).1
theorem e_popO (i : Nat) {o e : Expr} {apos cpos : Pos} {φ : DE} (hv : ∀ j, PE (F.X j) o (tVar i)) (he : ED M F e φ) (hb : ∀ j, attributeBase o "pop" (F.X j).env (eval o (F.X j).env) = eval o (F.X j).env := by intro _; rfl)
    (hfew : ∀ j, ((backTo cpos (starEach [e] (F.X j).env)).all (fun x => !x.1) && (backToKw cpos (keywordEach [] (F.X j).env)).all (fun x => x.1.isSome) && decide (([e] : List Expr).length + ([] : List Keyword).length + (if ([] : List Keyword).isEmpty then 0 else 1) < 30)) = true := by intro _; rfl)
    (hline : (apos.endLine == cpos.line) = true := by rfl) (hs : ∀ j, starEach [e] (F.X j).env = (false, eval e (F.X j).env) :: starEach [] (F.X j).env := by intro _; rfl) (hpl : ∀ j, (backTo cpos (starEach [] (F.X j).env)).any (·.1) = false := by intro _; rfl) :
    ED M F (.Call (.Attribute o "pop" apos) [e] [] cpos) (dPop i φ) := by
  obtain ⟨t, p, a⟩ := he
  refine ⟨tBM K "list" rPopAt (tVar i) (tCons t tNil), fun j => by
    have := pe_bm (apos := apos) (cpos := cpos) PySem.F.plainAttrs_list PySem.F.slot_list_pop PySem.F.type_list_pop mt_popAt (hv j) (pa_cons (p j) pa_nil (hs j)) (hb j) (hfew j) hline (hs j) (hpl j)
    rw [F.hK j] at this
    exact this, fun s σ G H R Q rel h q => ?_⟩
  obtain ⟨h0, h⟩ := h
  split at h0
  · rename_i ds0 hi0
    obtain ⟨x, vs0, x1, x2, x3, _⟩ := rel.getL hi0
    refine ⟨_, x1, .inl ⟨rfl, _, .inl (.inl x2)⟩, ?_⟩
    refine a s σ G H _ _ rel h fun d s1 v G1 H1 h1 r1 g1 hv => ?_
    split at h1
    · rename_i n ds hi
      obtain ⟨n0, n1, y, hy, hR⟩ := h1
      cases hv
      obtain ⟨z, vs, y1, y2, y3, y4, y5, y6⟩ := r1.getL hi
      rw [x1] at y1
      cases y1
      obtain ⟨yv, e1, e2⟩ := y3.get hy
      have hl : n.toNat < vs.length := (List.getElem?_eq_some_iff.mp e1).1
      refine ⟨x, vs, n, n.toNat, yv, rfl, rfl, y2, by omega, by omega, seqIx n0 (by omega), e1, ?_⟩
      have r2 := r1.put hi x1 (es := .l (ds.eraseIdx n.toNat)) ⟨_, rfl, y3.erase n.toNat⟩
      refine q _ _ _ _ _ hR r2 (g1.tr ⟨Ex.rf _, fun b hb ho => ⟨upd_ne fun z => ho.2 i (.l ds) hi (by rw [x1, z]), rfl⟩, fun l => ?_⟩) e2
      show (∃ es, (s1.sl.set i (.own (.l (ds.eraseIdx n.toNat))))[l]? = some (.own es)) ↔ _
      rw [List.getElem?_set]
      by_cases e : i = l
      · have il : i < s1.sl.length := (List.getElem?_eq_some_iff.mp hi).1
        rw [if_pos e, if_pos il, ← e]
        exact ⟨fun _ => ⟨.l ds, hi⟩, fun _ => ⟨_, rfl⟩⟩
      · rw [if_neg e]
    · exact h1.elim
  · exact h0.elim
@[simp] def dLenO (i : Nat) : DE := fun s R => match s.sl[i]? with
  | some (.own (.l ds)) => R (.int ds.length) s
  | _ => False
theorem e_lenO (hm : mg "len" = none) (i : Nat) {p pos : Pos} {a : Expr} (hv : ∀ j, PE (F.X j) a (tVar i)) (hg : ∀ j, Gl (F.X j) "len") (he : ∀ j, starEach [a] (F.X j).env = (false, eval a (F.X j).env) :: starEach [] (F.X j).env := by intro _; rfl) (hpl : ∀ j, (backTo pos (starEach [] (F.X j).env)).any (·.1) = false := by intro _; rfl) :
    ED M F (.Call (.Name "len" p) [a] [] pos) (dLenO i) := by
  refine ⟨tCB (fun xs H Q => ∃ p ys, xs = [.ref p] ∧ (SqL K H p ys ∨ SqT K H p ys) ∧ Q (.int ys.length) H) (tCons (tVar i) tNil), fun j => pe_callB (by have := call_len_seq (X := F.X j); rw [F.hK j] at this; exact this) (hg j) (by rw [F.hm j]; exact hm) PySem.boot_len (pa_cons (hv j) pa_nil (he j)) (by decide) (by decide) (he j) (hpl j), fun s σ G H R Q rel h q => ?_⟩
  unfold dLenO at h
  split at h
  · rename_i ds hi
    obtain ⟨x, vs, x1, x2, x3, _⟩ := rel.getL hi
    exact ⟨_, x1, x, vs, rfl, .inl (.inl (.inl x2)), q _ _ _ _ _ h rel Go.rf (by rw [x3.len]; exact .int _)⟩
  · exact h.elim
@[simp] def lRng (φ : DE) : DA := fun s R => φ s fun d s1 => match d with
  | .int n => (-10000 ≤ n ∧ n ≤ 10000) ∧ R (rgD n.toNat) s1
  | _ => False
theorem vds_rg {G : Hp} {n : Int} : Vds G (rgV 0 n) (rgD n.toNat) := by
  have key : ∀ l : List Nat, Vds G (l.map fun i => V.int (0 + (i : Nat))) (l.map fun i => D.int (Int.ofNat i)) := fun l => by
    induction l with
    | nil => exact .nil
    | cons a l ih =>
      refine .cons ?_ ih
      have e : (0 + (a : Int)) = Int.ofNat a := Int.zero_add _
      show Vd G (.int (0 + (a : Nat))) _
      rw [e]
      exact .int _
  unfold rgV rgD
  have e : (n - 0).toNat = n.toNat := by rw [Int.sub_zero]
  rw [e]
  exact key _
theorem l_lrange {a : Expr} {p p2 pos pos2 : Pos} {φ : DE} (hl : mg "list" = none) (hr : mg "range" = none) (h : ED M F a φ) (hg : ∀ j, Gl (F.X j) "list") (hg2 : ∀ j, Gl (F.X j) "range") (na : ∀ j, starEach [a] (F.X j).env = (false, eval a (F.X j).env) :: starEach [] (F.X j).env := by intro _; rfl)
    (nb : ∀ j, starEach [.Call (.Name "range" p2) [a] [] pos2] (F.X j).env = (false, eval (.Call (.Name "range" p2) [a] [] pos2) (F.X j).env) :: starEach [] (F.X j).env := by intro _; rfl) : EL M F (.Call (.Name "list" p) [.Call (.Name "range" p2) [a] [] pos2] [] pos) (lRng φ) := by
  obtain ⟨t, q, b⟩ := h
  refine ⟨_, fun j => pe_listRg (F.hc j) (hg j) (by rw [F.hm j]; exact hl) (prg_1 (hg2 j) (by rw [F.hm j]; exact hr) (q j) (na j)) (nb j), fun s σ G H R Q rel h q => ?_⟩
  refine b s σ G H _ _ rel h fun d s1 v G1 H1 h1 r1 g1 hv => ?_
  split at h1
  · rename_i n
    cases hv
    have := h1.1
    refine ⟨n, rfl, ⟨by omega, by omega, by omega, by omega, by omega⟩, fun l hl => ?_⟩
    obtain ⟨f1, f2, f3, f4⟩ := r1.fresh hl
    exact q _ _ _ _ _ _ h1.2 (r1.lay hl) (g1.tr (.lay hl)) vds_rg (g1.none rel r1 hl) upd_at f1 f2 f3 f4
  · exact h1.elim
end
end DL
/-! closures that are called far from where they were made: their cells are pinned -/
namespace Clo
open PySem PySem.Spec PyProof.Rows L2
theorem pin_ok {P : Program} {w : World} {H : Hp} {h : Heap} {c : Addr} {o : Obj} (e : h.get? c = some o) : ObjOk P w H h c (PinO c o) := ⟨e, ⟨_, e⟩, fun h1 h2 z k => k _ z⟩
theorem pin_at {P : Program} {w : World} {H : Hp} {h : Heap} {c : Addr} {o : Obj} (hok : HOk P w H h) (e : H c = some (PinO c o)) : h.get? c = some o := by
  obtain ⟨z, _, _⟩ := hok c _ e
  exact z
theorem lam_at {P : Program} {w : World} {H : Hp} {h : Heap} {f : Addr} {d : CloD} (hok : HOk P w H h) (e : LamAt H f d) : ∃ (pm ctv : Value) (c' : Addr), h.get? f = some (PySem.W.kla_obj "<lambda>" d.qual d.params d.body d.scope d.cl pm c' ctv) ∧ h.CodeRec (.ref c') d.qual := by
  obtain ⟨c', e1, e2⟩ := e
  obtain ⟨⟨pm, ctv, z⟩, _, _⟩ := hok f _ e1
  obtain ⟨⟨oc, vs, t, a1, a2, a3⟩, _, _⟩ := hok c' _ e2
  exact ⟨pm, ctv, c', z, c', oc, vs, t, rfl, a1, a2, a3⟩
abbrev cloEnv (d : CloD) (L f c' : Addr) : Env := PySem.W.envX d.qual d.scope L f (.ref c') d.cl
/-- the context of the body -/
def cloCx (P : Program) (w : World) (K : PySem.W.Frag) (mg : Str → Option Value) (base : Heap) (N : List Str) (A : Around) (outer : List Env) (s : Shared) (H : Hp) (E : XK) (d : CloD) (f c' : Addr) : Cx where
  prog := P
  w := w
  K := K
  mg := mg
  base := base
  A := A.deeper (cloEnv d s.heap.objs.size f c')
  N := N
  s_0 := s
  H_0 := H
  env := cloEnv d s.heap.objs.size f c'
  outer := outer
  stack := cloEnv d s.heap.objs.size f c' :: outer
  ex := []
  fn := fun _ => false
  calm := true
  pn := []
  xe := fun e s' => wpAny (model P w) (A.deeper (cloEnv d s.heap.objs.size f c')) (leaving (cloEnv d s.heap.objs.size f c') e) (fun _ s'' => L2.CX P w outer H s E e s'') (fun e' s'' => L2.CX P w outer H s E e' s'') s'
/-- what the words must be -/
structure CloS (d : CloD) : Prop where
  kind : d.scope.kind = .function
  co : d.scope.isCoroutine = false
  gen : d.scope.isGenerator = false
  own : ∀ y ∈ d.scope.names, y.2 ≠ .local ∧ y.2 ≠ .cell
  has : ∀ y, d.scope.names.lookup y = some .free → ∃ c, d.cl.lookup y = some c
  inj : ∀ y z c, d.cl.lookup y = some c → d.cl.lookup z = some c → y = z
section
variable {P : Program} {w : World} {K : PySem.W.Frag} {mg : Str → Option Value} {base : Heap} {N : List Str}
theorem clo_start {A : Around} {outer : List Env} {s : Shared} {H : Hp} {E : XK} {d : CloD} {f c' : Addr} {σ : L2.St} {h₁ : Heap} {tk : Nat} (W : CloS d) (e0 : Env0 P w K mg base A outer s H) (hd : A.handled = none)
    (hcell : ∀ y c, d.cl.lookup y = some c → H c = none ∧ ∃ v, s.heap.IsCell c v)
    (hval : ∀ (i : Nat) (y : Str) (v : V), N[i]? = some y → σ[i]? = some (some v) → ∃ c u, d.scope.names.lookup y = some .free ∧ d.cl.lookup y = some c ∧ RelV v u ∧ s.heap.IsCell c (some u))
    (hlen : σ.length = N.length) (hns : h₁.Ns s.heap.objs.size fun y => ([] : List (Str × Value)).reverse.lookup y) (kp : ∀ b o, s.heap.get? b = some o → h₁.get? b = some o) :
    Inv (cloCx P w K mg base N A outer s H E d f c') [] σ H { s with heap := h₁, toks := tk } := by
  have cellK : ∀ {c : Addr} {v : Option Value}, s.heap.IsCell c v → h₁.IsCell c v := fun {c v} ⟨o, ho, q⟩ => ⟨o, kp _ _ ho, q⟩
  have noA : ∀ b : Addr, b ∉ (cloCx P w K mg base N A outer s H E d f c').ex := fun b z => absurd (show b ∈ ([] : List Addr) from z) (by simp)
  refine ⟨⟨e0.mod, W.kind, rfl, rfl, Nat.le_refl _, fun y z c e1 e2 => W.inj y z c e1 e2, fun y hy => ?_, fun y c z _ => ?_, fun _ => hd, Around.frames_deeper e0.frames, .inr ⟨rfl, rfl⟩, fun b z => absurd z (noA b), e0.bs, e0.bsz, fun b _ _ => noA b,
      fun b z => absurd z (noA b), e0.funs, e0.frf⟩,
    rfl, e0.bare, Un.kept kp, ⟨_, hns, fun i y v e1 e2 e3 => ?_⟩, fun y c e => ?_, e0.hok.fresh (Nat.le_refl _), fun y c e => ?_, fun q hq => absurd (show q ∈ ([] : List (Addr × Obj)) ++ [] from hq) (by simp), e0.hok.kept kp, hlen⟩
  · have hy : d.scope.names.lookup y = some .cell ∨ d.scope.names.lookup y = some .free := hy
    rcases hy with hy | hy
    · exact absurd rfl (W.own _ (PySem.mem_of_lookup hy)).2
    · exact W.has y hy
  · have z : false = true := z
    cases z
  · obtain ⟨c, u, h1, h2, h3, h4⟩ := hval i y v e1 e2
    exact ⟨u, h3, .inr ⟨.inr h1, c, h2, cellK h4⟩⟩
  · obtain ⟨_, v, z⟩ := hcell y c e
    exact ⟨v, cellK z⟩
  · exact (hcell y c e).1
end
/-! ### the pins are taken out, and put back -/
def unp (cs : List Addr) (H : Hp) : Hp := fun b => if b ∈ cs then none else H b
def rep (cs : List Addr) (H0 H : Hp) : Hp := fun b => if b ∈ cs then H0 b else H b
theorem unp_in {cs : List Addr} {H : Hp} {b : Addr} (h : b ∈ cs) : unp cs H b = none := if_pos h
theorem unp_out {cs : List Addr} {H : Hp} {b : Addr} (h : b ∉ cs) : unp cs H b = H b := if_neg h
theorem rep_in {cs : List Addr} {H0 H : Hp} {b : Addr} (h : b ∈ cs) : rep cs H0 H b = H0 b := if_pos h
theorem rep_out {cs : List Addr} {H0 H : Hp} {b : Addr} (h : b ∉ cs) : rep cs H0 H b = H b := if_neg h
/-- each of cs is pinned -/
def Pins (cs : List Addr) (H : Hp) : Prop := ∀ c ∈ cs, ∃ o, H c = some (PinO c o)
section
variable {P : Program} {w : World} {cs : List Addr} {H H' : Hp} {h h' : Heap}
theorem unp_of {b : Addr} {o : HO} (e : unp cs H b = some o) : b ∉ cs ∧ H b = some o := by
  by_cases z : b ∈ cs
  · rw [unp_in z] at e; cases e
  · rw [unp_out z] at e; exact ⟨z, e⟩
theorem Pins.no {c : Addr} {u : HO} (p : Pins cs H) (e : H c = some u) (n : ∀ o, u ≠ PinO c o) : c ∉ cs := fun z => by
  obtain ⟨o, e'⟩ := p c z
  rw [e] at e'
  exact n o (Option.some.inj e')
theorem pin_own {c a : Addr} {o : Obj} : (HO.own a) ≠ PinO c o := fun z => by cases z
theorem pin_tup {c : Addr} {xs : List V} {o : Obj} : (HO.tup xs) ≠ PinO c o := fun z => by cases z
theorem pin_frz {c : Addr} {q : Obj} {u : HO} {o : Obj} : (HO.frz q u) ≠ PinO c o := fun z => by cases z
theorem pin_tbl {c : Addr} {ps : Array Value} {o : Obj} : (HO.tbl ps) ≠ PinO c o := fun z => by cases z
theorem hok_unp (p : Pins cs H) (k : HOk P w H h) : HOk P w (unp cs H) h := fun b o e => by
  obtain ⟨hb, e⟩ := unp_of e
  refine (k b o e).stay (fun _ _ _ z => z) (fun c hc => ?_) fun c xs hc => ?_
  · rw [unp_out (p.no hc fun o => pin_own)]; exact hc
  · rw [unp_out (p.no hc fun o => pin_tup)]; exact hc
theorem hok_rep (p : Pins cs H) (st : ∀ c ∈ cs, ∀ o, H c = some (PinO c o) → h'.get? c = some o) (no : ∀ c ∈ cs, H' c = none) (k : HOk P w H' h') : HOk P w (rep cs H H') h' := fun b o e => by
  by_cases z : b ∈ cs
  · rw [rep_in z] at e
    obtain ⟨o', e'⟩ := p b z
    rw [e] at e'
    cases e'
    exact pin_ok (st b z o' e)
  · rw [rep_out z] at e
    refine (k b o e).stay (fun _ _ _ z => z) (fun c hc => ?_) fun c xs hc => ?_
    · rw [rep_out fun z' => by rw [no c z'] at hc; cases hc]; exact hc
    · rw [rep_out fun z' => by rw [no c z'] at hc; cases hc]; exact hc
theorem env0_unp {K : PySem.W.Frag} {mg : Str → Option Value} {base : Heap} {A : Around} {outer : List Env} {s : Shared} (p : Pins cs H) (e : Env0 P w K mg base A outer s H) : Env0 P w K mg base A outer s (unp cs H) := by
  have un : ∀ b, H b = none → unp cs H b = none := fun b n => by
    by_cases z : b ∈ cs
    · exact unp_in z
    · rw [unp_out z]; exact n
  exact ⟨e.frames, e.mod, fun b o q => ⟨(e.bs b o q).1, un b (e.bs b o q).2⟩, e.bsz, e.funs, fun b q => un b (e.frf b q), hok_unp p e.hok, e.bare⟩
/-- a call's end -/
theorem ce_rep {K : PySem.W.Frag} {mg : Str → Option Value} {base : Heap} {A : Around} {outer : List Env} {s s' : Shared} {Q Q' : VK} {u : Value} (p : Pins cs H) (e0 : Env0 P w K mg base A outer s H) (c : CE outer P w (unp cs H) s Q u s') (hq : ∀ v H', Q v H' → (∀ c ∈ cs, H' c = none) → Q' v (rep cs H H')) : CE outer P w H s Q' u s' := by
  obtain ⟨v, H', os, bare, un, hok, rv, q⟩ := c
  have here : ∀ c ∈ cs, ∀ o, H c = some (PinO c o) → s.heap.get? c = some o := fun c _ o e => pin_at e0.hok e
  have nf : ∀ c ∈ cs, c ∉ frs outer := fun c hc z => by
    obtain ⟨o, e⟩ := p c hc
    rw [e0.frf c z] at e
    cases e
  have no : ∀ c ∈ cs, H' c = none := fun c hc => by
    obtain ⟨o, e⟩ := p c hc
    exact un.free c o (here c hc o e) (unp_in hc) (by simp)
  have out : ∀ {b : Addr}, H b = none → b ∉ cs := fun {b} n z => by
    obtain ⟨o, e⟩ := p b z
    rw [n] at e
    cases e
  refine ⟨v, rep cs H H', os, bare, ⟨fun b o e n hf hx => un.keep b o e (by rw [unp_out (out n)]; exact n) hf hx, fun b o e n hf hx => un.slot b o e (by rw [unp_out (out n)]; exact n) hf hx,
    fun b o e n hx => by rw [rep_out (out n)]; exact un.free b o e (by rw [unp_out (out n)]; exact n) hx, un.there, fun b xs e => ?_, fun b o v e => ?_, fun b ps e => ?_⟩,
    hok_rep p (fun c hc o e => un.keep c o (here c hc o e) (unp_in hc) (nf c hc) (by simp)) no hok, rv, hq v H' q no⟩
  · have nb := p.no e fun o => pin_tup
    rw [rep_out nb]
    exact un.tups b xs (by rw [unp_out nb]; exact e)
  · have nb := p.no e fun o => pin_frz
    rw [rep_out nb]
    exact un.frzs b o v (by rw [unp_out nb]; exact e)
  · have nb := p.no e fun o => pin_tbl
    rw [rep_out nb]
    exact un.tbls b ps (by rw [unp_out nb]; exact e)
/-- .. by an exception -/
theorem cx_rep {K : PySem.W.Frag} {mg : Str → Option Value} {base : Heap} {A : Around} {outer : List Env} {s s' : Shared} {E E' : XK} {u : Value} (p : Pins cs H) (e0 : Env0 P w K mg base A outer s H) (c : L2.CX P w outer (unp cs H) s E u s') (hq : ∀ cls d H', E cls d H' → (∀ c ∈ cs, H' c = none) → E' cls d (rep cs H H')) : L2.CX P w outer H s E' u s' := by
  obtain ⟨a, B, H', cls, d, eu, fl, hok, ub, na, os, ag, q⟩ := c
  have here : ∀ c ∈ cs, ∀ o, H c = some (PinO c o) → s.heap.get? c = some o := fun c _ o e => pin_at e0.hok e
  have nf : ∀ c ∈ cs, c ∉ frs outer := fun c hc z => by
    obtain ⟨o, e⟩ := p c hc
    rw [e0.frf c z] at e
    cases e
  have no : ∀ c ∈ cs, H' c = none := fun c hc => by
    obtain ⟨o, e⟩ := p c hc
    exact ub.free c o (here c hc o e) (unp_in hc)
  have out : ∀ {b : Addr}, H b = none → b ∉ cs := fun {b} n z => by
    obtain ⟨o, e⟩ := p b z
    rw [n] at e
    cases e
  have st : ∀ c ∈ cs, ∀ o, H c = some (PinO c o) → B.get? c = some o := fun c hc o e => ub.keep c o (here c hc o e) (unp_in hc) (nf c hc)
  have ac : a ∉ cs := fun z => by
    obtain ⟨o, e⟩ := p a z
    have h1 := st a z o e
    have h2 : B.get? a = none := fl.2.1
    rw [h1] at h2
    cases h2
  refine ⟨a, B, rep cs H H', cls, d, eu, fl, hok_rep p st no hok, ⟨fun b o e n hf => ub.keep b o e (by rw [unp_out (out n)]; exact n) hf, ub.slot, fun b o e n => by rw [rep_out (out n)]; exact ub.free b o e (by rw [unp_out (out n)]; exact n), ub.there, fun b xs e => ?_, fun b o v e => ?_, fun b ps e => ?_⟩,
    by rw [rep_out ac]; exact na, os, ag, hq cls d H' q no⟩
  · have nb := p.no e fun o => pin_tup
    rw [rep_out nb]
    exact ub.tups b xs (by rw [unp_out nb]; exact e)
  · have nb := p.no e fun o => pin_frz
    rw [rep_out nb]
    exact ub.frzs b o v (by rw [unp_out nb]; exact e)
  · have nb := p.no e fun o => pin_tbl
    rw [rep_out nb]
    exact ub.tbls b ps (by rw [unp_out nb]; exact e)
end
section
variable {P : Program} {w : World} {K : PySem.W.Frag} {mg : Str → Option Value} {base : Heap} {N : List Str} {k : Nat}
/-- a closure is called: tb, what its body does -/
theorem clo_run {A : Around} {outer : List Env} {s : Shared} {H : Hp} {d : CloD} {f : Addr} {σ : L2.St} {Q Q' : VK} {E E' : XK} (W : CloS d) (hr : Room (k + 1) A) (e0 : Env0 P w K mg base A outer s H) (hf : LamAt H f d)
    (p : Pins (d.cl.map (·.2)) H) (hcell : ∀ y c, d.cl.lookup y = some c → ∃ v, s.heap.IsCell c v)
    (hval : ∀ (i : Nat) (y : Str) (v : V), N[i]? = some y → σ[i]? = some (some v) → ∃ c u, d.scope.names.lookup y = some .free ∧ d.cl.lookup y = some c ∧ RelV v u ∧ s.heap.IsCell c (some u)) (hlen : σ.length = N.length)
    (hbind : ∀ (pm cv ctv : Value), bindArgs (PySem.W.kla_fn "<lambda>" d.qual d.params d.body d.scope d.cl pm cv ctv) ⟨[], []⟩ = pure [])
    (hbody : ∀ c' : Addr, Room k (A.deeper (cloEnv d s.heap.objs.size f c')) → ∃ tb, PE (cloCx P w K mg base N A outer s (unp (d.cl.map (·.2)) H) E d f c') d.body tb ∧ tb σ (unp (d.cl.map (·.2)) H) Q)
    (hq : ∀ v H', Q v H' → (∀ c ∈ d.cl.map (·.2), H' c = none) → Q' v (rep (d.cl.map (·.2)) H H')) (hx : ∀ cls dd H', E cls dd H' → (∀ c ∈ d.cl.map (·.2), H' c = none) → E' cls dd (rep (d.cl.map (·.2)) H H')) :
    codeAny (model P w) A (.call (.ref f) ⟨[], []⟩) (CR (L2.CX P w) outer P w H s Q' E') s := by
  obtain ⟨pm, ctv, c', of, rc⟩ := lam_at e0.hok hf
  have e1 : Env0 P w K mg base A outer s (unp (d.cl.map (·.2)) H) := env0_unp p e0
  have lim : s.heap.NoLimit := e0.mod.nolimit.keeps fun b o e => (e0.bs b o e).1
  refine PySem.W.kla_callFunE hr.depth of rfl W.co W.gen rfl rc ?_
  rw [hbind]
  refine wpAny_pure (wpAny_newFunctionEnv (fun y hy => (W.own y hy).2) (fun y hy => absurd hy (by simp)) (fun h₁ hns hsb => ⟨lim.fresh _ hsb, ?_⟩) W.kind)
  show codeAny _ _ (.expr d.body (cloEnv d s.heap.objs.size f c')) _ _
  have kp : ∀ b o, s.heap.get? b = some o → h₁.get? b = some o := fun b o e => hsb.extBut b o (Nat.ne_of_lt (Heap.lt_size e)) (Heap.get?_push_of_some _ e)
  have J : Inv (cloCx P w K mg base N A outer s (unp (d.cl.map (·.2)) H) E d f c') [] σ (unp (d.cl.map (·.2)) H) { s with heap := h₁, toks := s.toks + ([] : List (Str × Value)).length } :=
    clo_start W e1 hr.hd (fun y c e => ⟨unp_in (List.mem_map.mpr ⟨(y, c), PySem.mem_of_lookup e, rfl⟩), hcell y c e⟩) hval hlen hns kp
  obtain ⟨tb, hb, ht⟩ := hbody c' (hr.deeper _)
  refine PySem.W.kla_codeExpr (wpAny_mono (hb.run [] _ _ _ Q J ht) (fun u s' hq' => ?_) fun e s' hq' => ?_)
  · obtain ⟨v, H', J', rv, q⟩ := hq'
    exact ce_rep p e0 ⟨v, H', J'.os, J'.bare, J'.base, J'.hok, rv, q⟩ hq
  · exact wpAny_mono hq' (fun _ s'' z => cx_rep p e0 z hx) fun e' s'' z => cx_rep p e0 z hx
end
end Clo
/-! a lambda is made, and known from then on -/
namespace Clo
open PySem PySem.Spec PyProof.Rows L2
section
variable {X : Cx} {pins : List (Addr × Obj)} {σ : L2.St} {H : Hp} {s : Shared}
theorem lamO_ok {P : Program} {w : World} {H : Hp} {h : Heap} {f : Addr} {d : CloD} {pm ctv : Value} {c' : Addr} (e : h.get? f = some (PySem.W.kla_obj "<lambda>" d.qual d.params d.body d.scope d.cl pm c' ctv)) : ObjOk P w H h f (LamO f c' d) :=
  ⟨⟨pm, ctv, e⟩, ⟨_, e⟩, fun h1 h2 ⟨pm, ctv, e⟩ k => ⟨pm, ctv, k _ e⟩⟩
theorem lamO_tbl {f c' : Addr} {d : CloD} (ps : Array Value) : LamO f c' d ≠ .tbl ps := fun z => by
  unfold LamO at z
  cases z
/-- H1 is H with the function f, its code object c' (new, or of the table) -/
inductive LamNew (H H1 : Hp) (P : Addr) (ps : Array Value) (d : CloD) (f c' : Addr) : Prop
  | hit (hc : ∃ pos, codeAmong pos ps.toList = some (.ref c')) (e : H1 = upd H f (LamO f c' d))
  | new (ps' : Array Value) (nc : H c' = none) (nf : f ≠ c') (t : TriplesOk ps'.toList) (ha : ∀ pos cv, codeAmong pos ps'.toList = some cv → codeAmong pos ps.toList = some cv ∨ cv = .ref c') (e : H1 = upd (upd (upd H P (.tbl ps')) c' (LamX.CodeO c' d.qual)) f (LamO f c' d))
theorem lam_made {c P : Addr} {ps : Array Value} {params : Arguments} {body : Expr} {scope : Scope} {pos : Pos} {E : Value → Shared → Prop} {Q : Value → Shared → Prop} (I : Inv X pins σ H s) (TB : LamX.TabB X.base X.mg c P) (hcode : X.env.code = .ref c)
    (hP : H P = some (.tbl ps)) (ht : TriplesOk ps.toList) (ha : ∀ (pos : Pos) (cv : Value), codeAmong pos ps.toList = some cv → ∃ c, cv = .ref c ∧ H c = some (LamX.CodeO c (X.env.qual ++ "<lambda>"))) (hdef : defaultsOf params X.env = ([], [])) (hfree : ∀ y ∈ scope.names, y.2 = .free → ∃ c, X.env.cells.lookup y.1 = some c)
    (h : ∀ (f c' : Addr) (H1 : Hp) (s' : Shared), Inv X pins σ H1 s' → H f = none → LamNew H H1 P ps ⟨X.env.qual ++ "<lambda>", params, body, scope, L2.cloFrom X.env.cells scope.names []⟩ f c' → Q (.ref f) s') :
    wpAny (model X.prog X.w) X.A (eval (.Lambda params body scope pos) X.env) Q E s := by
  refine PySem.W.kla_eval hdef ?_
  have bP : s.heap.BuiltinsAt X.mg P := TB.bm.keeps I.bk
  have hP' : s.heap.get? P = some { cls := .none, data := .fields ps } := I.hok P _ hP
  cases hc : codeAmong pos ps.toList with
  | none =>
    refine PySem.W.kla_makeFunction (mg := X.mg) (c := c) (P := P) (ps := ps) (L2.closure_ok hfree) I.ok.glob (I.mod.glob.keeps I.bk) hcode (TB.code.keeps I.bk) hP' ht hc TB.gP bP fun c' ctv h' tk hx hge hlt hrec htb => ?_
    obtain ⟨c2, oc, vs, t, e2, hoc, hd, hv⟩ := hrec
    cases e2
    have hsz : s.heap.objs.size ≤ h'.objs.size := Nat.le_trans hge (Nat.le_of_lt hlt)
    have nC : H c' = none := I.hok.fresh hge
    have I1 := LamX.inv_table (t' := tk) (more := #[rawInt pos.line, rawInt pos.col, .ref c']) (h' := h') I hP (fun b o hb e => hx b o hb e) htb hge ⟨oc, vs, t, hoc, hd, hv⟩
    have eL : (ps ++ #[rawInt pos.line, rawInt pos.col, .ref c']).toList = ps.toList ++ [rawInt pos.line, rawInt pos.col, .ref c'] := by simp
    refine h h'.objs.size c' _ _ (I1.laid (t' := tk) (a := h'.objs.size) (o := LamO h'.objs.size c' ⟨X.env.qual ++ "<lambda>", params, body, scope, L2.cloFrom X.env.cells scope.names []⟩) (fun b u q => Heap.get?_push_of_some _ q) (Nat.le_refl _)
      (lamO_ok (pm := (X.mg "__name__").getD .none) (ctv := ctv) (c' := c') (Heap.get?_push_size _ rfl))) (I.hok.fresh hsz) (.new _ nC (Nat.ne_of_gt hlt) (by rw [eL]; exact PySem.TriplesOk_snoc _ _ _ _ ht) (fun p' cv hcv => ?_) rfl)
    rw [eL] at hcv
    exact LamX.among_app _ ht hcv
  | some cv =>
    obtain ⟨c', e, hco⟩ := ha pos cv hc
    subst e
    refine PySem.W.kla_makeFunctionHit (mg := X.mg) (c := c) (P := P) (ps := ps) (L2.closure_ok hfree) I.ok.glob (I.mod.glob.keeps I.bk) hcode (TB.code.keeps I.bk) hP' ht hc bP fun ctv h' tk hx hsz => ?_
    exact h h'.objs.size c' _ _ (I.laid (t' := tk) (a := h'.objs.size) (o := LamO h'.objs.size c' ⟨X.env.qual ++ "<lambda>", params, body, scope, L2.cloFrom X.env.cells scope.names []⟩) (fun b u q => Heap.get?_push_of_some _ (hx b u q)) hsz
      (lamO_ok (pm := (X.mg "__name__").getD .none) (ctv := ctv) (c' := c') (Heap.get?_push_size _ rfl))) (I.hok.fresh hsz) (.hit ⟨pos, hc⟩ rfl)
end
end Clo
/-! closures with promises; calls from a frame whose own cells are pinned for the call -/
namespace Clo
open PySem PySem.Spec PyProof.Rows L2
/-- a closure's promise, told of what its cells have -/
structure CloG (P : Program) (w : World) (K : PySem.W.Frag) (mg : Str → Option Value) (base : Heap) (k : Nat) (d : CloD) (sp : Sp) : Prop where
  run : ∀ (A : Around) (outer : List Env) (s : Shared) (H : Hp) (f : Addr) (vs : List V) (Q : VK) (E : XK), Room k A → A.guards = some [] → Env0 P w K mg base A outer s H → LamAt H f d → SC H d vs → sp vs H Q E →
    codeAny (model P w) A (.call (.ref f) ⟨[], []⟩) (CR (L2.CX P w) outer P w H s Q E) s
theorem CloG.mono {P : Program} {w : World} {K : PySem.W.Frag} {mg : Str → Option Value} {base : Heap} {j k : Nat} {d : CloD} {sp : Sp} (c : CloG P w K mg base j d sp) (h : j ≤ k) : CloG P w K mg base k d sp := ⟨fun A o s H f vs Q E hr => c.run A o s H f vs Q E (hr.mono h)⟩
/-- the words of a lambda, as they are looked at -/
def cloSB (d : CloD) : Bool := decide (d.scope.kind = .function) && !d.scope.isCoroutine && !d.scope.isGenerator && d.scope.names.all fun y => !decide (y.2 = .local) && !decide (y.2 = .cell) && (!decide (y.2 = .free) || decide (d.scope.names.lookup y.1 = some .free))
section
variable {P : Program} {w : World} {K : PySem.W.Frag} {mg : Str → Option Value} {base : Heap} {k : Nat}
theorem frees_free {d : CloD} {i : Nat} {y : Str} (hs : cloSB d = true) (h : (frees d)[i]? = some y) : d.scope.names.lookup y = some .free := by
  unfold cloSB at hs
  simp only [Bool.and_eq_true, Bool.or_eq_true, Bool.not_eq_true', decide_eq_true_eq, decide_eq_false_iff_not, List.all_eq_true] at hs
  have hm := List.mem_of_getElem? h
  unfold frees at hm
  obtain ⟨p, hp, e⟩ := List.mem_filterMap.mp hm
  split at e
  · rename_i hf
    cases e
    rcases (hs.2 p hp).2 with z | z
    · exact absurd hf z
    · exact z
  · cases e
theorem cloG_of {d : CloD} {sp : Sp} (W : CloS d) (hs : cloSB d = true) (hbind : ∀ (pm cv ctv : Value), bindArgs (PySem.W.kla_fn "<lambda>" d.qual d.params d.body d.scope d.cl pm cv ctv) ⟨[], []⟩ = pure [])
    (hbody : ∀ (A : Around) (outer : List Env) (s : Shared) (H : Hp) (f c' : Addr) (vs : List V) (Q : VK) (E : XK), Room k (A.deeper (cloEnv d s.heap.objs.size f c')) → A.guards = some [] → Pins (d.cl.map (·.2)) H → SC H d vs → sp vs H Q E →
      ∃ tb, PE (cloCx P w K mg base (frees d) A outer s (unp (d.cl.map (·.2)) H) (fun cls dd H' => (∀ c ∈ d.cl.map (·.2), H' c = none) → E cls dd (rep (d.cl.map (·.2)) H H')) d f c') d.body tb ∧ tb (vs.map some) (unp (d.cl.map (·.2)) H) (fun v H' => (∀ c ∈ d.cl.map (·.2), H' c = none) → Q v (rep (d.cl.map (·.2)) H H'))) :
    CloG P w K mg base (k + 1) d sp := by
  refine ⟨fun A outer s H f vs Q E hr hG e0 hf sc h => ?_⟩
  have pn : Pins (d.cl.map (·.2)) H := fun c hc => by
    obtain ⟨p, hp, rfl⟩ := List.mem_map.mp hc
    obtain ⟨o, w, e, _⟩ := sc.pin p hp
    exact ⟨o, e⟩
  refine clo_run (N := frees d) (σ := vs.map some) (Q := fun v H' => (∀ c ∈ d.cl.map (·.2), H' c = none) → Q v (rep (d.cl.map (·.2)) H H')) (E := fun cls dd H' => (∀ c ∈ d.cl.map (·.2), H' c = none) → E cls dd (rep (d.cl.map (·.2)) H H')) W hr e0 hf pn (fun y c e => ?_) (fun i y v h1 h2 => ?_) (by rw [List.length_map]; exact sc.len) hbind (fun c' hr' => hbody A outer s H f c' vs Q E hr' hG pn sc h) (fun v H' q no => q no) (fun cls dd H' q no => q no)
  · obtain ⟨o, w, e1, e2⟩ := sc.pin (y, c) (PySem.mem_of_lookup e)
    exact ⟨w, o, pin_at e0.hok e1, e2⟩
  · rw [List.getElem?_map] at h2
    obtain ⟨v', h3, e⟩ := Option.map_eq_some_iff.mp h2
    cases e
    obtain ⟨c, o, u, a1, a2, a3, a4⟩ := sc.val i y v h1 h3
    exact ⟨c, u, frees_free hs h1, a1, a4, o, pin_at e0.hok a2, a3⟩
/-- x(), x a closure of which we know the promise -/
theorem pe_cloW {X : Cx} {i : Nat} {a : Str} {W : WX} {p1 p2 : Pos} (tk : Takes X W) (hr : Room k X.A) (hG : X.A.guards = some []) (hN : X.N[i]? = some a) (hv : Vis X.env.scope a) (hd : (a == ("__debug__" : Str)) = false := by decide) (hcd : (a == ("__classdict__" : Str)) = false := by decide) :
    PE X (.Call (.Name a p1) [] [] p2) (fun σ H Q => ∃ f d vs sp, σ[i]? = some (some (.ref f)) ∧ CloG X.prog X.w X.K X.mg X.base k d sp ∧ LamAt H f d ∧ SC H d vs ∧ sp vs H Q (fun cls dd H' => W cls dd σ H')) := by
  refine ⟨fun pins s σ H Q I h => ?_⟩
  obtain ⟨f, d, vs, sp, hs, hC, hf, sc, h⟩ := h
  refine wpAny_Call_Name_kw (thn ((pe_var (pos := p1) (i := i) hN hv hd hcd).run pins s σ H (fun v H1 => v = .ref f ∧ H1 = H) I ⟨.ref f, hs, rfl, rfl⟩) fun u s1 ⟨v, H1, I1, r1, q1⟩ => ?_)
  obtain ⟨ev, eH⟩ := q1
  subst ev
  rw [eH] at I1
  obtain rfl : u = Value.ref f := r1
  obtain ⟨pm, ctv, c', of1, rc⟩ := lam_at I1.hok hf
  refine PySem.W.callWith_F0 ⟨_, _, _, _, of1⟩ ?_
  refine wpAny_call (codeAny_mono (hC.run X.A X.stack s1 H f vs Q _ hr hG I1.env0 hf sc h) fun r s' hq => ?_)
  match r, hq with
  | .error e, hq => exact tk e s' (XE.of_call I1 (fun cls d H' h => h) hq)
  | .ok (.ret u), hq => exact I1.after hq
end
/-! ### the frame's own cells are pinned for a call -/
def pinH (h : Heap) (cs : List Addr) (H : Hp) : Hp := fun b => if b ∈ cs then (h.get? b).map (PinO b) else H b
section
variable {P : Program} {w : World} {K : PySem.W.Frag} {mg : Str → Option Value} {base : Heap} {A : Around} {outer : List Env} {s s' : Shared} {H : Hp} {cs : List Addr}
theorem pinH_in {h : Heap} {b : Addr} {o : Obj} (hb : b ∈ cs) (e : h.get? b = some o) : pinH h cs H b = some (PinO b o) := by
  unfold pinH
  rw [if_pos hb, e]
  rfl
theorem pinH_out {h : Heap} {b : Addr} (hb : b ∉ cs) : pinH h cs H b = H b := if_neg hb
theorem env0_pin (e : Env0 P w K mg base A outer s H) (hc : ∀ c ∈ cs, (∃ o, s.heap.get? c = some o) ∧ H c = none ∧ base.get? c = none ∧ c ∉ frs outer) : Env0 P w K mg base A outer s (pinH s.heap cs H) := by
  refine ⟨e.frames, e.mod, fun b o q => ⟨(e.bs b o q).1, ?_⟩, e.bsz, e.funs, fun b q => ?_, fun b o q => ?_, e.bare⟩
  · rw [pinH_out fun z => by rw [(hc b z).2.2.1] at q; cases q]
    exact (e.bs b o q).2
  · rw [pinH_out fun z => (hc b z).2.2.2 q]
    exact e.frf b q
  · by_cases z : b ∈ cs
    · obtain ⟨o', eo⟩ := (hc b z).1
      rw [pinH_in z eo] at q
      cases q
      exact pin_ok eo
    · rw [pinH_out z] at q
      refine (e.hok b o q).stay (fun _ _ _ z => z) (fun c q' => ?_) fun c xs q' => ?_
      · rw [pinH_out fun z' => by rw [(hc c z').2.1] at q'; cases q']; exact q'
      · rw [pinH_out fun z' => by rw [(hc c z').2.1] at q'; cases q']; exact q'
theorem hok_unp' {H' : Hp} {h : Heap} (p : ∀ c ∈ cs, ∃ o, H' c = some (PinO c o)) (k : HOk P w H' h) : HOk P w (unp cs H') h := hok_unp p k
theorem ce_unpin {Q Q' : VK} {u : Value} (e0 : Env0 P w K mg base A outer s H) (hc : ∀ c ∈ cs, (∃ o, s.heap.get? c = some o) ∧ H c = none ∧ base.get? c = none ∧ c ∉ frs outer) (c : CE outer P w (pinH s.heap cs H) s Q u s') (hq : ∀ v H', Q v H' → (∀ c ∈ cs, H' c = pinH s.heap cs H c) ∧ Q' v (unp cs H')) : CE outer P w H s Q' u s' := by
  obtain ⟨v, H', os, bare, un, hok, rv, q⟩ := c
  obtain ⟨st, q⟩ := hq v H' q
  have pn : Pins cs H' := fun c z => by
    obtain ⟨o, eo⟩ := (hc c z).1
    exact ⟨o, (st c z).trans (pinH_in z eo)⟩
  have out : ∀ {b : Addr} {x : HO}, H b = some x → b ∉ cs := fun {b x} e z => by rw [(hc b z).2.1] at e; cases e
  refine ⟨v, unp cs H', os, bare, ⟨fun b o e n hf hx => ?_, fun b o e n hf hx => ?_, fun b o e n hx => ?_, un.there, fun b xs e => ?_, fun b o v e => ?_, fun b ps e => ?_⟩, hok_unp pn hok, rv, q⟩
  · by_cases z : b ∈ cs
    · exact pin_at hok ((st b z).trans (pinH_in z e))
    · exact un.keep b o e (by rw [pinH_out z]; exact n) hf hx
  · exact un.slot b o e (by rw [pinH_out fun z => (hc b z).2.2.2 hf]; exact n) hf hx
  · by_cases z : b ∈ cs
    · exact unp_in z
    · rw [unp_out z]
      exact un.free b o e (by rw [pinH_out z]; exact n) hx
  · rw [unp_out (out e)]
    exact un.tups b xs (by rw [pinH_out (out e)]; exact e)
  · rw [unp_out (out e)]
    exact un.frzs b o v (by rw [pinH_out (out e)]; exact e)
  · rw [unp_out (out e)]
    exact un.tbls b ps (by rw [pinH_out (out e)]; exact e)
theorem cx_unpin {E E' : XK} {u : Value} (e0 : Env0 P w K mg base A outer s H) (hc : ∀ c ∈ cs, (∃ o, s.heap.get? c = some o) ∧ H c = none ∧ base.get? c = none ∧ c ∉ frs outer) (c : L2.CX P w outer (pinH s.heap cs H) s E u s') (hq : ∀ cls d H', E cls d H' → (∀ c ∈ cs, H' c = pinH s.heap cs H c) ∧ E' cls d (unp cs H')) : L2.CX P w outer H s E' u s' := by
  obtain ⟨a, B, H', cls, d, eu, fl, hok, ub, na, os, ag, q⟩ := c
  obtain ⟨st, q⟩ := hq cls d H' q
  have pn : Pins cs H' := fun c z => by
    obtain ⟨o, eo⟩ := (hc c z).1
    exact ⟨o, (st c z).trans (pinH_in z eo)⟩
  have out : ∀ {b : Addr} {x : HO}, H b = some x → b ∉ cs := fun {b x} e z => by rw [(hc b z).2.1] at e; cases e
  refine ⟨a, B, unp cs H', cls, d, eu, fl, hok_unp pn hok, ⟨fun b o e n hf => ?_, ub.slot, fun b o e n => ?_, ub.there, fun b xs e => ?_, fun b o v e => ?_, fun b ps e => ?_⟩, ?_, os, ag, q⟩
  · by_cases z : b ∈ cs
    · exact pin_at hok ((st b z).trans (pinH_in z e))
    · exact ub.keep b o e (by rw [pinH_out z]; exact n) hf
  · by_cases z : b ∈ cs
    · exact unp_in z
    · rw [unp_out z]
      exact ub.free b o e (by rw [pinH_out z]; exact n)
  · rw [unp_out (out e)]
    exact ub.tups b xs (by rw [pinH_out (out e)]; exact e)
  · rw [unp_out (out e)]
    exact ub.frzs b o v (by rw [pinH_out (out e)]; exact e)
  · rw [unp_out (out e)]
    exact ub.tbls b ps (by rw [pinH_out (out e)]; exact e)
  · by_cases z : a ∈ cs
    · exact unp_in z
    · rw [unp_out z]; exact na
end
/-- the addresses of some cells -/
def csOf (cells : List (Str × Addr)) (ns : List Str) : List Addr := ns.filterMap fun y => cells.lookup y
/-- Hp is H with the cells of ns pinned, which have what σ tells -/
structure PinRel (cells : List (Str × Addr)) (ns N : List Str) (σ : L2.St) (H Hp : Hp) : Prop where
  out : ∀ b, b ∉ csOf cells ns → Hp b = H b
  no : ∀ c ∈ csOf cells ns, H c = none
  pin : ∀ c ∈ csOf cells ns, ∃ o w, Hp c = some (PinO c o) ∧ o.data = .cell w
  val : ∀ (i : Nat) (y : Str) (v : V), y ∈ ns → N[i]? = some y → σ[i]? = some (some v) → ∃ c o u, cells.lookup y = some c ∧ Hp c = some (PinO c o) ∧ o.data = .cell (some u) ∧ RelV v u
section
variable {X : Cx} {k : Nat} {f : Addr} {fd : FuncData} {ps ns : List Str} {sp : Sp} {E : XK} {x : Str} {p pos : Pos} {e : Expr} {es : List Expr} {t : TA}
theorem Inv.pinned {pins : List (Addr × Obj)} {σ : L2.St} {H : Hp} {s : Shared} (I : Inv X pins σ H s) (hns : ∀ y ∈ ns, X.env.kindOf y = some .cell) (hfn : X.fn = fun _ => true) :
    (∀ c ∈ csOf X.env.cells ns, (∃ o, s.heap.get? c = some o) ∧ H c = none ∧ X.base.get? c = none ∧ c ∉ frs X.stack) ∧ PinRel X.env.cells ns X.N σ H (pinH s.heap (csOf X.env.cells ns) H) := by
  have mem : ∀ {c}, c ∈ csOf X.env.cells ns → ∃ y ∈ ns, X.env.cells.lookup y = some c := fun {c} h => List.mem_filterMap.mp h
  have some_ : ∀ {y c}, X.env.cells.lookup y = some c → y ∈ ns → c ∈ csOf X.env.cells ns := fun {y c} e h => List.mem_filterMap.mpr ⟨y, h, e⟩
  refine ⟨fun c hc => ?_, fun b hb => pinH_out hb, fun c hc => ?_, fun c hc => ?_, fun i y v hy h1 h2 => ?_⟩
  · obtain ⟨y, hy, e⟩ := mem hc
    obtain ⟨v, o, ho, hd⟩ := I.cell y c e
    have hge := I.ok.cab y c (by rw [hfn]) e
    refine ⟨⟨o, ho⟩, I.freeC y c e, Heap.get?_none_of_le (Nat.le_trans I.ok.bsz hge), fun z => ?_⟩
    rcases List.mem_cons.mp (I.stkSub c z) with z | z
    · exact I.cne y c e z
    · obtain ⟨_, o', ho', _⟩ := I.ok.funs.mem z
      exact absurd (Nat.lt_of_lt_of_le (Heap.lt_size ho') hge) (Nat.lt_irrefl _)
  · obtain ⟨y, hy, e⟩ := mem hc
    exact I.freeC y c e
  · obtain ⟨y, hy, e⟩ := mem hc
    obtain ⟨v, o, ho, hd⟩ := I.cell y c e
    exact ⟨o, v, pinH_in hc ho, hd⟩
  · obtain ⟨m, hn, hl⟩ := I.loc
    have hk := hns y hy
    obtain ⟨u, r, q⟩ := hl i y v h1 h2 (.inr (.inl hk))
    rcases q with ⟨q, _⟩ | ⟨_, c, e, o, ho, hd⟩
    · rw [hk] at q; cases q
    · exact ⟨c, o, u, e, pinH_in (some_ e hy) ho, hd, r⟩
/-- f(e, ..), the frame's cells pinned for the call -/
def tCallPin (cells : List (Str × Addr)) (ns N : List Str) (sp : Sp) (E : XK) (t : TA) : TE := fun σ H Q => t σ H fun vs H1 => ∀ Hp, PinRel cells ns N σ H1 Hp → sp vs Hp (fun v H' => (∀ c ∈ csOf cells ns, H' c = Hp c) ∧ Q v (unp (csOf cells ns) H')) (fun cls d H' => (∀ c ∈ csOf cells ns, H' c = Hp c) ∧ E cls d (unp (csOf cells ns) H'))
theorem pe_callPin (F : Gd.FnG X.prog X.w X.K X.mg X.base (L2.CX X.prog X.w) k f fd ps sp) (hr : Room k X.A) (hG : X.A.guards = some []) (hg : Gl X x) (hm : X.mg x = some (.ref f)) (hk : PySem.W.keepIn X.K (.ref f) = true) (hb : Binds X.K fd ps []) (hx : Passes (L2.CX X.prog X.w) X E)
    (hns : ∀ y ∈ ns, X.env.kindOf y = some .cell) (hfn : X.fn = fun _ => true)
    (ha : PA X (e :: es) t) (hdb : (x == ("__debug__" : Str)) = false := by decide) (he : starEach (e :: es) X.env = (false, eval e X.env) :: starEach es X.env := by rfl) (hpl : (backTo pos (starEach es X.env)).any (·.1) = false := by rfl) :
    PE X (.Call (.Name x p) (e :: es) [] pos) (tCallPin X.env.cells ns X.N sp E t) := by
  refine ⟨fun pins s σ H Q I h => wpAny_Call_Name_kw (ld_glob I hg hm ?_ hdb)⟩
  refine PySem.W.callWith_K (h₀ := X.base) I.ok.mod.kin hk (thn (ha.run pos pins s σ H _ (I.tok _) h) fun us s1 ⟨vs, H1, I1, r, q⟩ => ⟨I1.kIn, ?_⟩) he hpl
  obtain ⟨hc, pr⟩ := Inv.pinned I1 hns hfn
  have q := q _ pr
  have hl : us.length = ps.length := r.length.symm.trans (F.len _ _ _ _ q)
  have bd := hb s1 us I1.kIn (by simpa using hl)
  rw [List.append_nil] at bd
  refine wpAny_call (codeAny_mono (F.run X.A X.stack s1 _ ⟨us, []⟩ us vs _ _ hr hG (env0_pin I1.env0 hc) bd r q) fun r s' hq => ?_)
  match r, hq with
  | .error e, hq => exact hx pins σ H1 s1 e s' I1 (cx_unpin I1.env0 hc hq fun _ _ _ h => h)
  | .ok (.ret u), hq => exact I1.after (ce_unpin I1.env0 hc hq fun _ _ h => h)
end
end Clo
/-! try: body, several `except C as n: return e` -/
namespace TryR
open PySem PySem.Spec PyProof.Rows L2
/-- a clause: its class, what its value reads -/
structure Cl where
  c : Value
  ts : Addr → Value → Option Addr → TE
def aim (K : PySem.W.Frag) (i : Nat) (out : WX) (rt : VK) : List Cl → WX
  | [] => out
  | k :: r => fun cls d σ H => ∃ b, PySem.W.exmOne K cls k.c = some b ∧ (b = true → ∀ a, H a = none → k.ts a cls d (σ.set i (some (.ref a))) H rt) ∧ (b = false → aim K i out rt r cls d σ H)
inductive Cls (X : Cx) (n : Str) : List ExceptHandler → List Cl → Prop
  | none : Cls X n [] []
  | more {x : Str} {e : Expr} {np rp pos : Pos} {k : Cl} {hds : List ExceptHandler} {l : List Cl} (hc : Names X x k.c)
      (hs : ∀ (a : Addr) (oe : Obj) (cls : Value) (d : Option Addr) (pn : List (Addr × Obj)), Zc cls d oe → (∃ vs, oe.data = .fields vs) → PE (X.suite a ((a, oe) :: pn)) e (k.ts a cls d)) (r : Cls X n hds l) :
      Cls X n (.ExceptHandler (some (.Name x np)) (some n) [.Return (some e) rp] pos :: hds) (k :: l)
section
variable {X : Cx} {i : Nat} {n : Str} {pins : List (Addr × Obj)} {σ : L2.St} {H : Hp} {D : Ends} {Wout : WX}
/-- an exception a that has come down: the frame as it was, the ground B -/
structure Down (X : Cx) (pins : List (Addr × Obj)) (σ : L2.St) (H : Hp) (a : Addr) (B : Heap) (sI s : Shared) (cls : Value) (d : Option Addr) (h : Heap) : Prop where
  inv : Inv X pins σ H sI
  nb : ∀ b o, sI.heap.get? b = some o → b ∉ frs X.stack → B.get? b = some o
  up : sI.heap.UpToSlots h
  na : H a = none
  os : s.os = sI.os
  ag : AllBare s.gens
  fl : HandSPX.FlyingZ B (X.env :: X.outer) a (Zc cls d) h
theorem Down.now {a : Addr} {B : Heap} {sI s : Shared} {cls : Value} {d : Option Addr} {h : Heap} (q : Down X pins σ H a B sI s cls d h) : Inv X pins σ H { s with heap := h } := q.inv.landed q.nb q.fl.1 q.up q.os q.ag
/-- it stands in the heap, no frame -/
theorem Down.at_ {a : Addr} {B : Heap} {sI s : Shared} {cls : Value} {d : Option Addr} {h : Heap} (hf : X.env.frame = some X.env.locals) (q : Down X pins σ H a B sI s cls d h) : ∃ oe vs, h.get? a = some oe ∧ Zc cls d oe ∧ oe.data = .fields vs ∧ a ≠ X.env.locals ∧ a ∉ X.fs := by
  obtain ⟨oe, vs, h1, h2, h3⟩ := q.fl.there
  have out : a ∉ frs (X.env :: X.outer) := fun m => by
    obtain ⟨_, o, h4, no⟩ := q.fl.2.2.1.mem m
    rw [h1] at h4
    cases h4
    exact no _ h3
  refine ⟨oe, vs, h1, h2, h3, fun z => out (List.mem_filterMap.mpr ⟨X.env, List.mem_cons_self, by rw [z]; exact hf⟩), fun m => ?_⟩
  obtain ⟨e, m1, m2⟩ := List.mem_filterMap.mp m
  exact out (List.mem_filterMap.mpr ⟨e, .tail _ m1, m2⟩)
theorem clauses (hN : X.N.Nodup) (hi : X.N[i]? = some n) (hl : X.env.kindOf n = some .local) (hs : X.stack = X.env :: X.outer) (hf : X.env.frame = some X.env.locals) (tk : Takes X Wout) {a : Addr} {B : Heap} {sI s : Shared} {cls : Value} {d : Option Addr} {h : Heap} (q : Down X pins σ H a B sI s cls d h) :
    ∀ {hds : List ExceptHandler} {l : List Cl}, Cls X n hds l → aim X.K i Wout D.rt l cls d σ H → wpAny (model X.prog X.w) X.A (handleBy (.ref a) X.env hds) (SP X pins D) X.xe { s with heap := h } := by
  intro hds l hk
  induction hk with
  | none =>
    intro w
    apply wpAny_handleBy_nil
    have fl := q.fl
    obtain ⟨_, _, _, oe, vs, T, oT, ts, g1, g2, g3, g4, _⟩ := id q.fl
    rw [PySem.passOn]
    apply wpAny_bind
    apply wpAny_field g1 g3 g4
    rw [if_neg (by simp)]
    have go : wpAny (model X.prog X.w) X.A (setFlight (.ref a) X.env.frame) (fun _ s' => wpAny (model X.prog X.w) X.A (throw (.ref a) : Sem Flow) (SP X pins D) X.xe s') X.xe { s with heap := h } := by
      rw [hf]
      apply HandSPX.setFlight_upZ fl
      intro h' held up'
      apply wpAny_throw
      exact tk _ _ ⟨a, B, sI, pins, σ, H, cls, d, rfl, q.inv, q.nb, q.up.trans up', .inr (.inr (by rw [hs]; exact held)), q.na, q.os, q.ag, w⟩
    first
      | exact wpAny_bind go
      | exact wpAny_bind (wpAny_pure (wpAny_bind go))
  | @more x e np rp pos k hds2 l2 hc he r ih =>
    rintro ⟨b, w1, w2, w3⟩
    obtain ⟨oe, vs, h1, h2, h3, nL, nF⟩ := q.at_ hf
    have now := q.now
    have S := now.suite h1 h3 q.na nL nF
    refine wpAny_handleBy_cons (codeAny_handlers_test ?_) (by intro z; cases z)
    have ty : PySem.W.Looks (model X.prog X.w) h (typeOf (.ref a)) cls := fun A Q E s' k' hq => by
      apply wpAny_typeOf_ref (k' _ _ h1)
      rw [h2.1]
      exact hq
    have named : ∀ {Q E : Value → Shared → Prop}, Q k.c { s with heap := h } → wpAny (model X.prog X.w) (X.A.mark (some (.ref a))) (eval (.Name x np) X.env) Q E { s with heap := h } := by
      intro Q E hq
      rcases hc with ⟨c1, c2, c3⟩
      rcases c3 with c3 | ⟨c3, c4, c5⟩
      · exact ld_glob S c1 c3 hq c2
      · exact ld_blt S c1 c3 c4 hq c5 c2
    apply named
    apply (PySem.W.exm_one (M := model X.prog X.w) now.kIn ty w1).here
    cases b with
    | false => exact ih (w3 rfl)
    | true =>
      apply codeAny_handlers_suite_as
      apply HandSPX.lands_againZ q.fl
      intro h' fl' up'
      have q' : Down X pins σ H a B sI s cls d h' := ⟨q.inv, q.nb, q.up.trans up', q.na, q.os, q.ag, fl'⟩
      obtain ⟨oe', vs', k1, k2, k3, _, _⟩ := q'.at_ hf
      have S' := q'.now.suite k1 k3 q.na nL nF
      refine store_ok (X := X.suite a ((a, oe') :: (X.pn ++ pins))) (v := .ref a) S' hN hi (Or.inl hl) rfl (fun s5 S5 => ?_) (Or.inr hl)
      have body := (pss_one (ps_ret (pos := rp) (he a oe' cls d (X.pn ++ pins) k2 ⟨_, k3⟩))).run [] s5 _ H { nx := fun _ _ => False, rt := D.rt, bk := fun _ _ => False, ct := fun _ _ => False } S5 (w2 rfl a q.na)
      refine wpAny_mono body (fun f s6 out => ?_) (fun _ _ z => z.elim)
      match f, out with
      | .ret u, ⟨v6, σ6, H6, S6, r6, q6⟩ => exact gone_ok (Inv.unsuite S6 now.ok) hN hi hl fun s7 J7 => ⟨v6, _, H6, J7, r6, q6⟩
      | .next, ⟨_, _, _, z⟩ => exact z.elim
      | .brk, ⟨_, _, _, z⟩ => exact z.elim
      | .cont, ⟨_, _, _, z⟩ => exact z.elim
theorem ps_tryR {body : List Stmt} {h₀ : ExceptHandler} {hds : List ExceptHandler} {l : List Cl} {pos : Pos} {tb : WX → TS} (hN : X.N.Nodup) (hi : X.N[i]? = some n) (hl : X.env.kindOf n = some .local) (hs : X.stack = X.env :: X.outer) (hf : X.env.frame = some X.env.locals) (tk : Takes X Wout)
    (hb : ∀ (W : WX) (pn : List (Addr × Obj)) (xe : Value → Shared → Prop), Takes (X.tr pn xe) W → PSs (X.tr pn xe) body (tb W)) (hh : Cls X n (h₀ :: hds) l) : PS X (.Try body (h₀ :: hds) [] [] pos) (fun D σ H => tb (aim X.K i Wout D.rt l) D σ H) := by
  constructor
  intro pins s σ H D I h
  have ok := I.ok
  apply wpAny_Try_except
  apply wpAny_mono ((hb (aim X.K i Wout D.rt l) (X.pn ++ pins) (fun e s₁ => wpAny (model X.prog X.w) X.A (noteFrame e X.env) (fun _ s₂ => wpAny (model X.prog X.w) X.A (setFlight e none) (fun _ s₃ => wpAny (model X.prog X.w) X.A (handleBy e X.env (h₀ :: hds)) (SP X pins D) X.xe s₃) X.xe s₂) X.xe s₁) ?_).run [] s σ H D (I.toTry _) h)
  · intro f s1 out
    match f, out with
    | .next, ⟨σ', H', J, q⟩ => exact wpAny_execs_nil ⟨σ', H', J.ofTry ok, q⟩
    | .brk, ⟨σ', H', J, q⟩ => exact ⟨σ', H', J.ofTry ok, q⟩
    | .cont, ⟨σ', H', J, q⟩ => exact ⟨σ', H', J.ofTry ok, q⟩
    | .ret u, ⟨v, σ', H', J, r, q⟩ => exact ⟨v, σ', H', J.ofTry ok, r, q⟩
  · exact fun _ _ z => z
  · rintro u s' ⟨a, B, sI, pins', σ', H', cls, d, rfl, J, nb, up, sky, na, os, ag, w⟩
    have fr : X.A.frames = some (X.env :: X.outer) := ok.frames.trans (congrArg some hs)
    rw [show (X.tr (X.pn ++ pins) _).stack = X.stack from rfl, hs] at sky
    show wpAny (model X.prog X.w) X.A (noteFrame (.ref a) X.env) _ _ _
    apply Sky.land Zc.steady fr hf sky
    intro h3 fl up3
    exact clauses hN hi hl hs hf tk ⟨J.ofTry ok, nb, up.trans up3, na, os, ag, fl⟩ hh w
end
end TryR
/-! closures at the level of data -/
namespace DL
open PySem PySem.Spec PyProof.Rows L2 Clo
/-! ### no function in it -/
mutual
@[simp] def flat : D → Bool
  | .clo _ => false
  | .sc _ _ => false
  | .tup ds => flats ds
  | .lst ds => flats ds
  | .dct _ ds => flats ds
  | .obj _ _ ds => flats ds
  | _ => true
@[simp] def flats : List D → Bool
  | [] => true
  | d :: ds => flat d && flats ds
end
/-- what stands at cs are pins -/
def PinAll (cs : List Addr) (G : Hp) : Prop := ∀ c ∈ cs, ∀ u, G c = some u → ∃ o, u = PinO c o
theorem PinAll.out {cs : List Addr} {G : Hp} {b : Addr} {u : HO} (p : PinAll cs G) (e : G b = some u) (n : ∀ o, u ≠ PinO b o) : b ∉ cs := fun z => by
  obtain ⟨o, e'⟩ := p b z u e
  exact n o e'
mutual
theorem Vd.unp {cs : List Addr} {G : Hp} (p : PinAll cs G) : ∀ {d : D} {v : V}, flat d = true → Vd G v d → Vd (unp cs G) v d
  | _, _, _, .non => .non
  | _, _, _, .bl b => .bl b
  | _, _, _, .int i => .int i
  | _, _, _, .str x => .str x
  | _, _, _, .ty n => .ty n
  | _, _, _, .cls C => .cls C
  | _, _, h, .lst e t => .lst ((unp_out (p.out e fun o z => nomatch z)).trans e) (Vds.unp p h t)
  | _, _, h, .tup e t => .tup ((unp_out (p.out e fun o z => nomatch z)).trans e) (Vds.unp p h t)
  | _, _, h, .dct e l t => .dct ((unp_out (p.out e fun o z => nomatch z)).trans e) l (Vds.unp p h t)
  | _, _, h, .obj e l t => .obj ((unp_out (p.out e fun o z => nomatch z)).trans e) l (Vds.unp p h t)
theorem Vds.unp {cs : List Addr} {G : Hp} (p : PinAll cs G) : ∀ {ds : List D} {vs : List V}, flats ds = true → Vds G vs ds → Vds (Clo.unp cs G) vs ds
  | _, _, _, .nil => .nil
  | _, _, h, .cons a t => by
    have h : (flat _ && flats _) = true := h
    rw [Bool.and_eq_true] at h
    exact .cons (Vd.unp p h.1 a) (Vds.unp p h.2 t)
end
/-! ### the promise of a closure -/
def spC (Ψ : DFn) : Sp := fun vs H Q E => ∃ (G : Hp) (env : List D) (c : Int) (R : D → Int → Prop) (RX : DX → Int → Prop), Ex G H ∧ Vds G vs env ∧ flats env = true ∧ Ψ env c R RX ∧
  (∀ d c' v G' H', R d c' → FrOk ⟨none, G, H, []⟩ c' G' H' → Vd G' v d → Q v H') ∧ XS ⟨none, G, H, []⟩ E RX
def CloD (P : Program) (w : World) (K : PySem.W.Frag) (mg : Str → Option Value) (base : Heap) (k : Nat) (d : Clo.CloD) (Ψ : DFn) : Prop := CloG P w K mg base k d (spC Ψ)
theorem CloD.mono {P : Program} {w : World} {K : PySem.W.Frag} {mg : Str → Option Value} {base : Heap} {j k : Nat} {d : Clo.CloD} {Ψ : DFn} (c : CloD P w K mg base j d Ψ) (h : j ≤ k) : CloD P w K mg base k d Ψ := CloG.mono c h
theorem ex_unp {cs : List Addr} {G H : Hp} (e : Ex G H) : Ex (unp cs G) (unp cs H) := fun b o h => by
  obtain ⟨h1, h2⟩ := unp_of h
  rw [unp_out h1]
  exact e b o h2
theorem fr_nil {G H : Hp} (b : Addr) : Fr0 ⟨none, G, H, []⟩ b := ⟨(fun _ _ z => nomatch z), (fun z => nomatch z)⟩
theorem frOk_rep {cs : List Addr} {G H G' H' : Hp} {c : Int} (e : Ex G H) (f : FrOk ⟨none, unp cs G, unp cs H, []⟩ c G' H') (no : ∀ c ∈ cs, H' c = none) : FrOk ⟨none, G, H, []⟩ c (rep cs G G') (rep cs H H') := by
  refine ⟨fun b o h => ?_, fun b o h => ?_, fun b hb hn => ?_, (fun p L z => nomatch z), ⟨(fun p hp => nomatch hp), (fun q hq => nomatch hq)⟩⟩
  · by_cases z : b ∈ cs
    · rw [rep_in z]; exact h
    · rw [rep_out z]; exact f.g b o ((unp_out z).trans h)
  · by_cases z : b ∈ cs
    · rw [rep_in z] at h ⊢; exact e b o h
    · rw [rep_out z] at h ⊢; exact f.ex b o h
  · by_cases z : b ∈ cs
    · exact ⟨rep_in z, rep_in z⟩
    · have hb : H b ≠ none := hb
      obtain ⟨a1, a2⟩ := f.fr b (by show unp cs H b ≠ none; rw [unp_out z]; exact hb) (fr_nil b)
      rw [rep_out z, rep_out z]
      exact ⟨a1.trans (unp_out z), a2.trans (unp_out z)⟩
theorem ex_rep {cs : List Addr} {G G' H' : Hp} (e : Ex G' H') (no : ∀ c ∈ cs, H' c = none) : Ex G' (rep cs G G') := fun b o h => by
  by_cases z : b ∈ cs
  · have := e b o h
    rw [no b z] at this
    cases this
  · rw [rep_out z]; exact h
section
variable {P : Program} {w : World} {K : PySem.W.Frag} {mg : Str → Option Value} {base : Heap} {k : Nat}
theorem clo_passes {N : List Str} {A : Around} {outer : List Env} {s : Shared} {H : Hp} {E : XK} {d : Clo.CloD} {f c' : Addr} : Passes (L2.CX P w) (cloCx P w K mg base N A outer s H E d f c') E := passes_call (takes_of rfl rfl rfl rfl) fun _ _ _ _ z => z
abbrev cloF (P : Program) (w : World) (K : PySem.W.Frag) (mg : Str → Option Value) (base : Heap) (k : Nat) (N : List Str) (A : Around) (outer : List Env) (s : Shared) (H : Hp) (E : XK) (d : Clo.CloD) (f c' : Addr) (hr : Room k (A.deeper (cloEnv d s.heap.objs.size f c'))) (hG : A.guards = some []) : Fam P w K mg base k :=
  Fam.one (cloCx P w K mg base N A outer s H E d f c') E ⟨rfl, rfl, rfl, rfl, rfl⟩ hr hG rfl clo_passes
theorem rel_env {M : Cm} {env : List D} {vs : List V} {c : Int} (e : Ex M.G0 M.H0) (hv : Vds M.G0 vs env) (hp : M.pen = none) (ht : M.tabs = []) : Rel M ⟨env.map .d, c⟩ (vs.map some) M.G0 M.H0 := by
  have al : Al M M.G0 M.H0 (env.map .d) (vs.map some) := al_d hv
  exact ⟨e, fun _ _ _ => ⟨rfl, rfl⟩, (fun p L z => by rw [hp] at z; cases z), ⟨(fun p z => by rw [ht] at z; cases z), (fun q z => by rw [ht] at z; cases z)⟩, al.len, fun i x ov h1 h2 => (al.get i x ov h1 h2).1, fun i j ds es a h1 h2 h3 h4 => absurd rfl ((al.get i _ _ h1 h3).2 ds)⟩
theorem cloD_of {d : Clo.CloD} {Ψ : DFn} (W : CloS d) (hs : cloSB d = true) (hbind : ∀ (pm cv ctv : Value), bindArgs (PySem.W.kla_fn "<lambda>" d.qual d.params d.body d.scope d.cl pm cv ctv) ⟨[], []⟩ = pure [])
    (hb : ∀ (A : Around) (outer : List Env) (s : Shared) (H : Hp) (f c' : Addr) (E : XK) (hr : Room k (A.deeper (cloEnv d s.heap.objs.size f c'))) (hG : A.guards = some []) (M : Cm) (RX : DX → Int → Prop), Nice M → XS M E RX →
      ∃ φ, ED M (cloF P w K mg base k (frees d) A outer s H E d f c' hr hG) d.body φ ∧ ∀ env c R, Ψ env c R RX → φ ⟨env.map .d, c⟩ fun d s => R d s.c) : CloD P w K mg base (k + 1) d Ψ := by
  refine cloG_of W hs hbind fun A outer s H f c' vs Q E hr hG pn sc h => ?_
  obtain ⟨G, env, c, R, RX, e, hv, hfl, hΨ, hq, hx⟩ := h
  have pg : PinAll (d.cl.map (·.2)) G := fun c hc u e' => by
    obtain ⟨o, e2⟩ := pn c hc
    rw [e c u e'] at e2
    exact ⟨o, Option.some.inj e2⟩
  let M : Cm := ⟨none, unp (d.cl.map (·.2)) G, unp (d.cl.map (·.2)) H, []⟩
  have ni : Nice M := ⟨ex_unp e, (fun p L z => nomatch z), (fun q z => nomatch z)⟩
  obtain ⟨φ, ⟨t, p, a⟩, pure_⟩ := hb A outer s (unp (d.cl.map (·.2)) H) f c' (fun cls dd H' => (∀ c ∈ d.cl.map (·.2), H' c = none) → E cls dd (rep (d.cl.map (·.2)) H H')) hr hG M RX ni (by
    intro x c cls dd G' H' hR fo ⟨x1, dx, us, x2, x3, x4, x5⟩ no
    have ex' := fo.ex
    exact hx x c cls dd _ _ hR (frOk_rep e fo no) ⟨x1, dx, us, x2, (rep_out fun z => by rw [no dx z] at x3; cases x3).trans x3, x4, Vds.mono (ex_rep ex' no) x5⟩)
  refine ⟨t, p (), a ⟨env.map .d, c⟩ (vs.map some) M.G0 M.H0 _ _ (rel_env ni.ex (Vds.unp pg hfl hv) rfl rfl) (pure_ env c R hΨ) fun d' s' v G' H' hR r g hv' no => ?_⟩
  have fo := r.frOk ni
  exact hq d' s'.c v _ _ hR (frOk_rep e fo no) (Vd.mono (ex_rep fo.ex no) hv')
end
/-! ### lambda: .. -/
section
variable {P : Program} {w : World} {K : PySem.W.Frag} {mg : Str → Option Value} {base : Heap} {k : Nat} {M : Cm} {F : Fam P w K mg base k}
theorem Rel.lam {s : S} {σ : L2.St} {G H H1 : Hp} {Pt f c' : Addr} {ps : Array Value} {d : Clo.CloD} (R : Rel M s σ G H) (hm : (Pt, d.qual) ∈ M.tabs) (hu : ∀ p ∈ M.tabs, p.1 = Pt → p.2 = d.qual) (hP : H Pt = some (.tbl ps)) (ht : TriplesOk ps.toList)
    (ha : ∀ (pos : Pos) (cv : Value), codeAmong pos ps.toList = some cv → ∃ c, cv = .ref c ∧ G c = some (LamX.CodeO c d.qual)) (nf : H f = none) (n : LamNew H H1 Pt ps d f c') :
    ∃ G1, Rel M s σ G1 H1 ∧ Go M σ s G H s G1 H1 ∧ LamAt G1 f d := by
  cases n with
  | hit hc e =>
    subst e
    obtain ⟨pos, hc⟩ := hc
    obtain ⟨c, e1, e2⟩ := ha pos _ hc
    cases e1
    have gf := ex_none R.ex nf
    exact ⟨upd G f (LamO f c' d), R.new nf, .new R nf, c', upd_at, (upd_ne fun z => by rw [z, gf] at e2; cases e2).trans e2⟩
  | new ps' nc nf' t ha' e =>
    subst e
    have mt : Pt ∈ M.tabs.map (·.1) := List.mem_map.mpr ⟨_, hm, rfl⟩
    have gP : G Pt = none := R.tab.2 Pt mt
    have Pc : Pt ≠ c' := fun z => by rw [z, nc] at hP; cases hP
    have Pf : Pt ≠ f := fun z => by rw [z, nf] at hP; cases hP
    -- the table
    have gc := ex_none R.ex nc
    have gf := ex_none R.ex nf
    have R1 : Rel M s σ (upd G c' (LamX.CodeO c' d.qual)) (upd (upd H Pt (.tbl ps')) c' (LamX.CodeO c' d.qual)) := by
      refine R.go (ex_new gc) (fun b hb hn => ?_) ?_ (fun p L e => ?_) ⟨fun p hp => ?_, fun q hq => ?_⟩
      · have h1 : b ≠ Pt := fun z => hn.2 (by rw [z]; exact mt)
        have h2 : b ≠ c' := fun z => hb (by rw [z]; exact nc)
        exact ⟨(upd_ne h2).trans (upd_ne h1), upd_ne h2⟩
      · exact ex_fix fun b o h => (upd_ne fun z => by rw [z, gP] at h; cases h).trans (R.ex b o h)
      · obtain ⟨h1, h2⟩ := R.pen p L e
        obtain ⟨n1, n2⟩ := h1.ne nc
        have h3 := h1
        obtain ⟨ns, a1, a2, a3, a4, a5, a6, _⟩ := h3
        have m1 : Pt ≠ p := fun z => by rw [z, a5] at hP; cases hP
        have m2 : Pt ≠ L := fun z => by rw [z, a6] at hP; cases hP
        exact ⟨(h1.put m1 m2).put n1 n2, (upd_ne n1.symm).trans h2⟩
      · obtain ⟨qs, b1, b2, b3⟩ := R.tab.1 p hp
        by_cases z : p.1 = Pt
        · refine ⟨ps', by rw [z]; exact (upd_ne Pc).trans upd_at, t, fun pos cv hcv => ?_⟩
          rcases ha' pos cv hcv with h | h
          · obtain ⟨c, e1, e2⟩ := ha pos cv h
            exact ⟨c, e1, by rw [hu p hp z]; exact ex_new gc _ _ e2⟩
          · exact ⟨c', h, by rw [hu p hp z]; exact upd_at⟩
        · have z2 : p.1 ≠ c' := fun y => by rw [y, nc] at b1; cases b1
          refine ⟨qs, (upd_ne z2).trans ((upd_ne z).trans b1), b2, fun pos cv hcv => ?_⟩
          obtain ⟨c, e1, e2⟩ := b3 pos cv hcv
          exact ⟨c, e1, ex_new gc _ _ e2⟩
      · obtain ⟨qs, e⟩ := R.tab.at_ hq
        exact (upd_ne fun z => by rw [z, nc] at e; cases e).trans (R.tab.2 q hq)
    have nf1 : (upd (upd H Pt (.tbl ps')) c' (LamX.CodeO c' d.qual)) f = none := (upd_ne nf').trans ((upd_ne Pf.symm).trans nf)
    refine ⟨upd (upd G c' (LamX.CodeO c' d.qual)) f (LamO f c' d), R1.new nf1, ⟨fun b o h => (upd_ne fun z => by rw [z, gf] at h; cases h).trans (ex_new gc b o h), fun b hb ho => ?_, fun _ => Iff.rfl⟩, c', upd_at, (upd_ne nf'.symm).trans upd_at⟩
    have h1 : b ≠ Pt := fun z => ho.1.2 (by rw [z]; exact mt)
    have h2 : b ≠ c' := fun z => hb (by rw [z]; exact nc)
    have h3 : b ≠ f := fun z => hb (by rw [z]; exact nf)
    exact ⟨(upd_ne h3).trans ((upd_ne h2).trans (upd_ne h1)), (upd_ne h3).trans (upd_ne h2)⟩
def tLamM (Pt : Addr) (d : Clo.CloD) : TE := fun _ H Q => ∃ ps : Array Value, H Pt = some (.tbl ps) ∧ TriplesOk ps.toList ∧ (∀ (pos : Pos) (cv : Value), codeAmong pos ps.toList = some cv → ∃ c, cv = .ref c ∧ H c = some (LamX.CodeO c d.qual)) ∧ ∀ f c' H1, H f = none → LamNew H H1 Pt ps d f c' → Q (.ref f) H1
theorem pe_lam {X : Cx} {c Pt : Addr} {params : Arguments} {body : Expr} {scope : Scope} {pos : Pos} {q : Str} {cells : List (Str × Addr)} (TB : LamX.TabB X.base X.mg c Pt) (hcode : X.env.code = .ref c) (hq : X.env.qual ++ "<lambda>" = q) (hcl : X.env.cells = cells) (hdef : defaultsOf params X.env = ([], [])) (hfree : ∀ y ∈ scope.names, y.2 = .free → ∃ c, cells.lookup y.1 = some c) :
    PE X (.Lambda params body scope pos) (tLamM Pt ⟨q, params, body, scope, L2.cloFrom cells scope.names []⟩) := by
  subst hq hcl
  refine ⟨fun pins s σ H Q I h => ?_⟩
  obtain ⟨ps, hP, ht, ha, h⟩ := h
  exact lam_made I TB hcode hP ht ha hdef hfree fun f c' H1 s' J n l => ⟨.ref f, H1, J, rfl, h f c' H1 n l⟩
theorem e_lam {c Pt : Addr} {params : Arguments} {body : Expr} {scope : Scope} {pos : Pos} {q : Str} {cells : List (Str × Addr)} (TB : LamX.TabB base mg c Pt) (hm : (Pt, q) ∈ M.tabs) (hu : ∀ p ∈ M.tabs, p.1 = Pt → p.2 = q) (hcode : ∀ j, (F.X j).env.code = .ref c) (hq : ∀ j, (F.X j).env.qual ++ "<lambda>" = q) (hcl : ∀ j, (F.X j).env.cells = cells)
    (hfree : ∀ y ∈ scope.names, y.2 = .free → ∃ c, cells.lookup y.1 = some c) (hdef : ∀ j, defaultsOf params (F.X j).env = ([], []) := by intro _; rfl) : ED M F (.Lambda params body scope pos) (dC (.clo ⟨q, params, body, scope, L2.cloFrom cells scope.names []⟩)) := by
  refine ⟨_, fun j => pe_lam (by rw [F.hb j, F.hm j]; exact TB) (hcode j) (hq j) (hcl j) (hdef j) hfree, fun s σ G H R Q rel h qq => ?_⟩
  obtain ⟨ps, h1, h2, h3⟩ := rel.tab.1 _ hm
  refine ⟨ps, h1, h2, fun pos cv hc => ?_, fun f c' H1 nf ln => ?_⟩
  · obtain ⟨c, e1, e2⟩ := h3 pos cv hc
    exact ⟨c, e1, rel.ex _ _ e2⟩
  · obtain ⟨G1, r1, g1, la⟩ := rel.lam (d := ⟨q, params, body, scope, L2.cloFrom cells scope.names []⟩) hm hu h1 h2 h3 nf ln
    exact qq _ _ _ _ _ h r1 g1 (.clo la)
end
/-! ### a call with the frame's cells pinned -/
/-- the value of a captured name -/
@[simp] def slotOf (N : List Str) (sl : List Slot) (y : Str) : Option D := match sl[N.idxOf y]? with
  | some (.d x) => some x
  | _ => none
mutual
inductive Seal (cells : List (Str × Addr)) (ns N : List Str) (sl : List Slot) : D → D → Prop
  | flat {d : D} (h : flat d = true) : Seal cells ns N sl d d
  | clo {q : Str} {params : Arguments} {body : Expr} {scope : Scope} {env : List D} (hs : (frees ⟨q, params, body, scope, L2.cloFrom cells scope.names []⟩).all (fun y => decide (y ∈ ns) && decide (y ∈ N)) = true) (he : (frees ⟨q, params, body, scope, L2.cloFrom cells scope.names []⟩).map (slotOf N sl) = env.map some) (hf : flats env = true) :
      Seal cells ns N sl (.clo ⟨q, params, body, scope, L2.cloFrom cells scope.names []⟩) (.sc ⟨q, params, body, scope, L2.cloFrom cells scope.names []⟩ env)
  | tup {ds es : List D} (h : Seals cells ns N sl ds es) : Seal cells ns N sl (.tup ds) (.tup es)
  | lst {ds es : List D} (h : Seals cells ns N sl ds es) : Seal cells ns N sl (.lst ds) (.lst es)
inductive Seals (cells : List (Str × Addr)) (ns N : List Str) (sl : List Slot) : List D → List D → Prop
  | nil : Seals cells ns N sl [] []
  | cons {d e : D} {ds es : List D} (h : Seal cells ns N sl d e) (t : Seals cells ns N sl ds es) : Seals cells ns N sl (d :: ds) (e :: es)
end
section
variable {cells : List (Str × Addr)} {ns N : List Str} {M : Cm} {s : S} {σ : L2.St} {G H Hp : Hp}
/-- G with the pins of Hp -/
def addP (cs : List Addr) (Hp G : L2.Hp) : L2.Hp := fun b => if b ∈ cs then Hp b else G b
theorem addP_in {cs : List Addr} {Hp G : L2.Hp} {b : Addr} (h : b ∈ cs) : addP cs Hp G b = Hp b := if_pos h
theorem addP_out {cs : List Addr} {Hp G : L2.Hp} {b : Addr} (h : b ∉ cs) : addP cs Hp G b = G b := if_neg h
theorem cl_free : ∀ {names : List (Str × NameKind)} {acc : List (Str × Addr)} {y : Str} {c : Addr}, (y, c) ∈ L2.cloFrom cells names acc → (∀ p ∈ names, p.2 = .free → ∃ c, cells.lookup p.1 = some c) → (y, c) ∈ acc ∨ ((y, NameKind.free) ∈ names ∧ cells.lookup y = some c) := fun {names acc y c} h hf => by
  rcases cloFrom_mem h with h1 | ⟨h1, h2⟩
  · exact .inl h1
  · obtain ⟨c1, hc⟩ := hf _ h1 rfl
    have hc : cells.lookup y = some c1 := hc
    refine .inr ⟨h1, ?_⟩
    rw [h2, hc] <;> rfl
theorem seal_clo (r : Rel M s σ G H) (pr : PinRel cells ns N σ H Hp) (hN : N.Nodup) (has : ∀ y ∈ ns, ∃ c, cells.lookup y = some c) {d : Clo.CloD} {env : List D} {f : Addr} (ed : d.cl = L2.cloFrom cells d.scope.names []) (hs : (frees d).all (fun y => decide (y ∈ ns) && decide (y ∈ N)) = true) (he : (frees d).map (slotOf N s.sl) = env.map some) (hf : flats env = true) (la : LamAt G f d) :
    Vd (addP (csOf cells ns) Hp G) (.ref f) (.sc d env) := by
  have ex : Ex G (addP (csOf cells ns) Hp G) := fun b o e => (addP_out fun z => by rw [ex_none r.ex (pr.no b z)] at e; cases e).trans e
  have mem : ∀ {y : Str} {c : Addr}, y ∈ ns → cells.lookup y = some c → c ∈ csOf cells ns := fun hy e => List.mem_filterMap.mpr ⟨_, hy, e⟩
  have hs := fun y hy => List.all_eq_true.mp hs y hy
  have lenE : (frees d).length = env.length := by
    have := congrArg List.length he
    simpa using this
  have fr : ∀ p ∈ d.scope.names, p.2 = .free → p.1 ∈ frees d := fun p hp e => List.mem_filterMap.mpr ⟨p, hp, by rw [if_pos e]⟩
  have inns : ∀ y ∈ frees d, y ∈ ns ∧ y ∈ N := fun y hy => by
    have h := hs y hy
    simpa only [Bool.and_eq_true, decide_eq_true_eq] using h
  have hfree : ∀ p ∈ d.scope.names, p.2 = .free → ∃ c, cells.lookup p.1 = some c := fun p hp e => has _ (inns _ (fr p hp e)).1
  -- the values
  have val : ∀ (i : Nat) (y : Str), (frees d)[i]? = some y → ∃ x v, env[i]? = some x ∧ Vd G v x ∧ ∃ j : Nat, N[j]? = some y ∧ σ[j]? = some (some v) := fun i y hi => by
    have h1 := congrArg (fun l => l[i]?) he
    simp only [List.getElem?_map, hi, Option.map_some] at h1
    cases q : env[i]? with
    | none => rw [q] at h1; cases h1
    | some x =>
      rw [q] at h1
      have h1 : slotOf N s.sl y = some x := Option.some.inj h1
      unfold slotOf at h1
      split at h1
      · rename_i x' hx
        cases h1
        obtain ⟨v, e1, e2⟩ := r.getD hx
        have hyN := (inns y (List.mem_of_getElem? hi)).2
        exact ⟨x, v, rfl, e2, N.idxOf y, by rw [List.getElem?_eq_getElem (List.idxOf_lt_length_iff.mpr hyN), List.getElem_idxOf], e1⟩
      · cases h1
  -- a row of them
  obtain ⟨vs, hvs, hval⟩ : ∃ vs, Vds G vs env ∧ ∀ (i : Nat) (y : Str), (frees d)[i]? = some y → ∃ (v : V) (j : Nat), vs[i]? = some v ∧ N[j]? = some y ∧ σ[j]? = some (some v) := by
    have key : ∀ (ys : List Str) (es : List D), ys.length = es.length → (∀ (i : Nat) (y : Str), ys[i]? = some y → ∃ x v, es[i]? = some x ∧ Vd G v x ∧ ∃ j : Nat, N[j]? = some y ∧ σ[j]? = some (some v)) → ∃ vs, Vds G vs es ∧ ∀ (i : Nat) (y : Str), ys[i]? = some y → ∃ (v : V) (j : Nat), vs[i]? = some v ∧ N[j]? = some y ∧ σ[j]? = some (some v) := by
      intro ys
      induction ys with
      | nil =>
        intro es hl _
        cases es with
        | nil => exact ⟨[], .nil, fun i y h => by cases h⟩
        | cons e es => cases hl
      | cons y ys ih =>
        intro es hl h
        cases es with
        | nil => cases hl
        | cons e es =>
          obtain ⟨vs, h1, h2⟩ := ih es (Nat.succ.inj hl) fun i z hz => h (i + 1) z hz
          obtain ⟨x, v, e1, e2, j, e3, e4⟩ := h 0 y rfl
          cases e1
          refine ⟨v :: vs, .cons e2 h1, fun i z hz => ?_⟩
          cases i with
          | zero =>
            cases hz
            exact ⟨v, j, rfl, e3, e4⟩
          | succ i => exact h2 i z hz
    exact key _ _ lenE val
  have pinAt : ∀ {c : Addr} {o : Obj}, c ∈ csOf cells ns → Hp c = some (PinO c o) → addP (csOf cells ns) Hp G c = some (PinO c o) := fun hc e => (addP_in hc).trans e
  refine .sc (la.mono ex) ⟨by rw [hvs.len, lenE], fun p hp => ?_, fun i y v h1 h2 => ?_⟩ (Vds.mono ex hvs)
  · rw [ed] at hp
    rcases cl_free (y := p.1) (c := p.2) hp hfree with h | ⟨h1, h2⟩
    · cases h
    · have hy := (inns _ (fr _ h1 rfl)).1
      obtain ⟨o, w, e1, e2⟩ := pr.pin p.2 (mem hy h2)
      exact ⟨o, w, pinAt (mem hy h2) e1, e2⟩
  · obtain ⟨v', j, e1, e2, e3⟩ := hval i y h1
    rw [h2] at e1
    cases e1
    have hy := (inns y (List.mem_of_getElem? h1)).1
    obtain ⟨c, o, u, a1, a2, a3, a4⟩ := pr.val j y v hy e2 e3
    refine ⟨c, o, u, ?_, pinAt (mem hy a1) a2, a3, a4⟩
    rw [ed]
    have hm := List.mem_of_getElem? h1
    unfold frees at hm
    obtain ⟨p, hp, e⟩ := List.mem_filterMap.mp hm
    split at e
    · rename_i hfr
      cases e
      obtain ⟨k, kind⟩ := p
      have hfr : kind = .free := hfr
      subst hfr
      obtain ⟨c2, h3⟩ := mem_lookup (cloFrom_has (cells := cells) (acc := []) hp)
      rcases cl_free (PySem.mem_of_lookup h3) hfree with h | ⟨_, h4⟩
      · cases h
      · have a1 : cells.lookup k = some c := a1
        rw [a1] at h4
        cases h4
        exact h3
    · cases e
mutual
theorem Seal.vd (r : Rel M s σ G H) (pr : PinRel cells ns N σ H Hp) (hN : N.Nodup) (has : ∀ y ∈ ns, ∃ c, cells.lookup y = some c) {d e : D} {v : V} (h : Seal cells ns N s.sl d e) (hv : Vd G v d) : Vd (addP (csOf cells ns) Hp G) v e := by
  have ex : Ex G (addP (csOf cells ns) Hp G) := fun b o e => (addP_out fun z => by rw [ex_none r.ex (pr.no b z)] at e; cases e).trans e
  match h with
  | .flat h => exact Vd.mono ex hv
  | .clo hs he hf =>
    cases hv with
    | clo la => exact seal_clo r pr hN has rfl hs he hf la
  | .tup h =>
    cases hv with
    | tup e t => exact .tup (ex _ _ e) (Seals.vd r pr hN has h t)
  | .lst h =>
    cases hv with
    | lst e t => exact .lst (ex _ _ e) (Seals.vd r pr hN has h t)
theorem Seals.vd (r : Rel M s σ G H) (pr : PinRel cells ns N σ H Hp) (hN : N.Nodup) (has : ∀ y ∈ ns, ∃ c, cells.lookup y = some c) {ds es : List D} {vs : List V} (h : Seals cells ns N s.sl ds es) (hv : Vds G vs ds) : Vds (addP (csOf cells ns) Hp G) vs es := by
  match h with
  | .nil =>
    cases hv
    exact .nil
  | .cons h t =>
    cases hv with
    | cons a b => exact .cons (h.vd r pr hN has a) (t.vd r pr hN has b)
end
end
end DL
/-! a call that gets closures; try: work() with clauses -/
namespace DL
open PySem PySem.Spec PyProof.Rows L2 Clo
theorem frOk_unp {cs : List Addr} {G H Hp G' H' : L2.Hp} {c : Int} (e : Ex G H) (no : ∀ c ∈ cs, H c = none) (out : ∀ b, b ∉ cs → Hp b = H b) (f : FrOk ⟨none, addP cs Hp G, Hp, []⟩ c G' H') : FrOk ⟨none, G, H, []⟩ c (unp cs G') (unp cs H') := by
  refine ⟨fun b o h => ?_, ex_unp f.ex, fun b hb hn => ?_, (fun p L z => nomatch z), ⟨(fun p hp => nomatch hp), (fun q hq => nomatch hq)⟩⟩
  · have nb : b ∉ cs := fun z => by
      have := e b o h
      rw [no b z] at this
      cases this
    rw [unp_out nb]
    exact f.g b o ((addP_out nb).trans h)
  · have hb : H b ≠ none := hb
    have nb : b ∉ cs := fun z => hb (no b z)
    obtain ⟨a1, a2⟩ := f.fr b (by show Hp b ≠ none; rw [out b nb]; exact hb) (fr_nil b)
    rw [unp_out nb, unp_out nb]
    exact ⟨a1.trans (out b nb), a2.trans (addP_out nb)⟩
section
variable {P : Program} {w : World} {K : PySem.W.Frag} {mg : Str → Option Value} {base : Heap} {k : Nat} {M : Cm} {F : Fam P w K mg base k}
/-- f(e, ..), f without a pen; closures among the arguments -/
@[simp] def dCallS (cells : List (Str × Addr)) (ns N : List Str) (Φ : DFn) (RX : DX → Int → Prop) (ψ : DA) : DE := fun s R => ψ s fun ds s1 => ∃ es, Seals cells ns N s1.sl ds es ∧ Φ es 0 (fun d _ => flat d = true ∧ R d s1) fun x _ => flats x.ds = true ∧ RX x s1.c
theorem e_callS {kf : Nat} {f : Addr} {fd : FuncData} {ps : List Str} {Φ : DFn} {x : Str} {p pos : Pos} {e : Expr} {es : List Expr} {ψ : DA} {RX : DX → Int → Prop} {cells : List (Str × Addr)} {ns N : List Str} (Fn : Gd.FnG P w K mg base (L2.CX P w) kf f fd ps (spF false [] Φ)) (hk : kf ≤ k) (hm : mg x = some (.ref f)) (kp : PySem.W.keepIn K (.ref f) = true)
    (hb : Binds K fd ps []) (hE : XS M F.E RX) (ni : Nice M) (hcl : ∀ j, (F.X j).env.cells = cells) (hNj : ∀ j, (F.X j).N = N) (hnd : N.Nodup) (hns : ∀ j, ∀ y ∈ ns, (F.X j).env.kindOf y = some .cell) (hfn : ∀ j, (F.X j).fn = fun _ => true) (has : ∀ y ∈ ns, ∃ c, cells.lookup y = some c)
    (ha : EA M F (e :: es) ψ) (hg : ∀ j, Gl (F.X j) x) (hdb : (x == ("__debug__" : Str)) = false := by decide)
    (he : ∀ j, starEach (e :: es) (F.X j).env = (false, eval e (F.X j).env) :: starEach es (F.X j).env := by intro _; rfl) (hpl : ∀ j, (backTo pos (starEach es (F.X j).env)).any (·.1) = false := by intro _; rfl) : ED M F (.Call (.Name x p) (e :: es) [] pos) (dCallS cells ns N Φ RX ψ) := by
  obtain ⟨t, q, a⟩ := ha
  refine ⟨tCallPin cells ns N (spF false [] Φ) F.E t, fun j => ?_, fun s σ G H R Q rel h q => ?_⟩
  · have Fn' : Gd.FnG (F.X j).prog (F.X j).w (F.X j).K (F.X j).mg (F.X j).base (L2.CX (F.X j).prog (F.X j).w) kf f fd ps (spF false [] Φ) := by rw [F.hP j, F.hw j, F.hK j, F.hm j, F.hb j]; exact Fn
    have px : Passes (L2.CX (F.X j).prog (F.X j).w) (F.X j) F.E := by rw [F.hP j, F.hw j]; exact F.hx j
    have := pe_callPin (x := x) (p := p) (pos := pos) Fn' ((F.hr j).mono hk) (F.hG j) (hg j) (by rw [F.hm j]; exact hm) (by rw [F.hK j]; exact kp) (by rw [F.hK j]; exact hb) px (hns j) (hfn j) (q j) hdb (he j) (hpl j)
    rw [hcl j, hNj j] at this
    exact this
  · refine a s σ G H _ _ rel h fun ds s1 vs G1 H1 h1 r1 g1 hvs => ?_
    obtain ⟨es', hs, h1⟩ := h1
    intro Hp pr
    have exA : Ex (addP (csOf cells ns) Hp G1) Hp := fun b o e => by
      by_cases z : b ∈ csOf cells ns
      · rw [addP_in z] at e; exact e
      · rw [addP_out z] at e; exact (pr.out b z).trans (r1.ex b o e)
    refine ⟨⟨none, addP (csOf cells ns) Hp G1, Hp, []⟩, vs, es', 0, (fun d _ => flat d = true ∧ R d s1), (fun x _ => flats x.ds = true ∧ RX x s1.c), rfl, rfl, rfl, by simp [penA], ⟨Ex.rf _, exA, fun b _ _ => ⟨rfl, rfl⟩, (fun p L z => nomatch z), ⟨(fun p hp => nomatch hp), (fun q hq => nomatch hq)⟩⟩, hs.vd r1 pr hnd has hvs, h1, fun d c' v G' H' hd fo hv => ?_, fun y c cls d G' H' hy fo xo => ?_⟩
    · have st : ∀ c ∈ csOf cells ns, H' c = Hp c := fun c hc => by
        obtain ⟨o, w, e, _⟩ := pr.pin c hc
        exact (fo.fr c (by show Hp c ≠ none; rw [e]; exact fun z => nomatch z) (fr_nil c)).1
      have pa : PinAll (csOf cells ns) G' := fun c hc u e => by
        obtain ⟨o, w, e2, _⟩ := pr.pin c hc
        have := fo.ex c u e
        rw [st c hc, e2] at this
        exact ⟨o, (Option.some.inj this).symm⟩
      have fo2 := frOk_unp r1.ex pr.no pr.out fo
      obtain ⟨r2, g2⟩ := r1.called (M' := ⟨none, G1, H1, []⟩) rfl rfl (.inl ⟨rfl, rfl⟩) fo2
      exact ⟨st, q _ _ _ _ _ hd.2 r2 (g1.tr g2) (Vd.unp pa hd.1 hv)⟩
    · have st : ∀ c ∈ csOf cells ns, H' c = Hp c := fun c hc => by
        obtain ⟨o, w, e, _⟩ := pr.pin c hc
        exact (fo.fr c (by show Hp c ≠ none; rw [e]; exact fun z => nomatch z) (fr_nil c)).1
      have pa : PinAll (csOf cells ns) G' := fun c hc u e => by
        obtain ⟨o, w, e2, _⟩ := pr.pin c hc
        have := fo.ex c u e
        rw [st c hc, e2] at this
        exact ⟨o, (Option.some.inj this).symm⟩
      have fo2 := frOk_unp r1.ex pr.no pr.out fo
      obtain ⟨r2, g2⟩ := r1.called (M' := ⟨none, G1, H1, []⟩) rfl rfl (.inl ⟨rfl, rfl⟩) fo2
      obtain ⟨x1, dx, us, x2, x3, x4, x5⟩ := xo
      refine ⟨st, hE y _ cls d _ _ hy.2 (r2.frOk ni) ⟨x1, dx, us, x2, (unp_out fun z => ?_).trans x3, x4, Vds.unp pa hy.1 x5⟩⟩
      obtain ⟨o, w, e2, _⟩ := pr.pin dx z
      rw [st dx z, e2] at x3
      cases x3
end
/-! ### the clauses' values: (tag, fault.f, ..) -/
def tagT (K : PySem.W.Frag) (tag : Str) (C : Addr) (ns : List Str) (a : Addr) (cls : Value) (d : Option Addr) : TE := tTup (tCons (tC (.str tag)) (ns.foldr (fun n t => tCons (tXf a cls d C n (tVar 1)) t) tNil))
def clOf (K : PySem.W.Frag) (q : Str × Addr × List Str) : TryR.Cl := ⟨.ref q.2.1, tagT K q.1 q.2.1 q.2.2⟩
theorem lookup_rev : ∀ (ns : List Str) (vs : List V), ns.Nodup → ns.length = vs.length → ∀ (i : Nat) (n : Str) (v : V), ns[i]? = some n → vs[i]? = some v → (ns.zip vs).reverse.lookup n = some v := by
  have app : ∀ (l : List (Str × V)) (n m : Str) (v : V), (l ++ [(m, v)]).lookup n = match l.lookup n with
      | some x => some x
      | none => if n == m then some v else none := fun l n m v => by
    induction l with
    | nil => simp [List.lookup]; split <;> simp_all
    | cons p l ih =>
      obtain ⟨a, b⟩ := p
      simp only [List.cons_append, List.lookup]
      split
      · rfl
      · exact ih
  have none_ : ∀ (ns : List Str) (vs : List V) (n : Str), n ∉ ns → (ns.zip vs).reverse.lookup n = none := fun ns => by
    induction ns with
    | nil => intro vs n _; rfl
    | cons m ns ih =>
      intro vs n hn
      cases vs with
      | nil => rfl
      | cons v vs =>
        rw [List.zip_cons_cons, List.reverse_cons, app, ih vs n fun z => hn (List.mem_cons_of_mem _ z)]
        have : (n == m) = false := by
          rw [beq_eq_false_iff_ne]
          exact fun z => hn (by rw [z]; exact List.mem_cons_self)
        simp [this]
  intro ns
  induction ns with
  | nil => intro vs _ _ i n v h; cases h
  | cons m ns ih =>
    intro vs nd hl i n v h1 h2
    cases vs with
    | nil => cases hl
    | cons x vs =>
      obtain ⟨nm, nd⟩ := List.nodup_cons.mp nd
      rw [List.zip_cons_cons, List.reverse_cons, app]
      cases i with
      | zero =>
        cases h1
        cases h2
        rw [none_ ns vs _ nm]
        simp
      | succ i => rw [ih vs nd (Nat.succ.inj hl) i n v h1 h2]
theorem tags_read {C a dx : Addr} {H : Hp} {fs : List (Str × V)} {σ : L2.St} (hs : σ[1]? = some (some (.ref a))) (hd : H dx = some (.xd fs)) : ∀ (ns : List Str) (vs : List V), ns.length = vs.length → (∀ (i : Nat) (n : Str) (v : V), ns[i]? = some n → vs[i]? = some v → fs.lookup n = some v) → ∀ Q : List V → Hp → Prop, Q vs H →
    ns.foldr (fun n t => tCons (tXf a (.ref C) (some dx) C n (tVar 1)) t) tNil σ H Q
  | [], [], _, _, Q, h => h
  | n :: ns, v :: vs, hl, hf, Q, h => ⟨_, hs, rfl, rfl, dx, fs, v, rfl, hd, hf 0 n v rfl rfl, tags_read hs hd ns vs (Nat.succ.inj hl) (fun i n v h1 h2 => hf (i + 1) n v h1 h2) (fun xs H' => Q (v :: xs) H') h⟩
/-- one of the clauses takes it -/
theorem aim_ok {K : PySem.W.Frag} {out : WX} {rt : VK} {dx : Addr} {H : Hp} {vs : List V} {x : DX} {σ : L2.St} (hσ : σ.length = 2) (hd : H dx = some (.xd (x.ns.zip vs).reverse)) (hl : x.ns.length = vs.length) (nd : x.ns.Nodup) (hlen : vs.length < 9000) : ∀ (l : List (Str × Addr × List Str)) (tag : Str), (∀ q ∈ l, PySem.W.exmOne K (.ref x.C) (.ref q.2.1) = some (decide (x.C = q.2.1))) → (∀ q ∈ l, q.2.1 = x.C → q.1 = tag ∧ q.2.2 = x.ns) → (∃ q ∈ l, q.2.1 = x.C) →
    (∀ p H', H p = none → H' = upd H p (.tup (.str tag :: vs)) → rt (.ref p) H') → TryR.aim K 1 out rt (l.map (clOf K)) (.ref x.C) (some dx) σ H
  | [], _, _, _, ⟨q, hq, _⟩, _ => nomatch hq
  | q :: l, tag, he, ht, hx, hr => by
    refine ⟨_, he q List.mem_cons_self, fun hb a _ => ?_, fun hb => ?_⟩
    · have hc : x.C = q.2.1 := of_decide_eq_true hb
      obtain ⟨e1, e2⟩ := ht q List.mem_cons_self hc.symm
      have hs : (σ.set 1 (some (V.ref a)))[1]? = some (some (.ref a)) := by
        rw [List.getElem?_set, if_pos rfl, if_pos (by omega)]
      show tagT K q.1 q.2.1 q.2.2 a (.ref x.C) (some dx) _ H rt
      rw [e1, e2, ← hc]
      refine tags_read hs hd x.ns vs hl (lookup_rev x.ns vs nd hl) _ ⟨by rw [List.length_cons, sizeLine_eq]; omega, fun p hp => hr p _ hp rfl⟩
    · have hc : x.C ≠ q.2.1 := of_decide_eq_false hb
      refine aim_ok hσ hd hl nd hlen l tag (fun q hq => he q (.tail _ hq)) (fun q hq => ht q (.tail _ hq)) ?_ hr
      obtain ⟨r, hr, e⟩ := hx
      rcases List.mem_cons.mp hr with z | z
      · exact absurd (by rw [← e, z]) hc
      · exact ⟨r, z, e⟩
/-- work() -/
def tWork (P : Program) (w : World) (K : PySem.W.Frag) (mg : Str → Option Value) (base : Heap) (kk : Nat) (W : WX) : TS := tDrop fun σ H Q => ∃ f d vs sp, σ[0]? = some (some (.ref f)) ∧ CloG P w K mg base kk d sp ∧ LamAt H f d ∧ SC H d vs ∧ sp vs H Q (fun cls dd H' => W cls dd σ H')
/-- what is told of a call's fault -/
def Φ_fault (P : Program) (w : World) (K : PySem.W.Frag) (mg : Str → Option Value) (base : Heap) (kk : Nat) (l : List (Str × Addr × List Str)) : DFn := fun ds c R _ => ∃ d env Ψ, ds = [.sc d env] ∧ flats env = true ∧ CloD P w K mg base kk d Ψ ∧ Ψ env c (fun _ c' => R .non c') fun x c' => ∃ tag, (tag, x.C, x.ns) ∈ l ∧ R (.tup (.str tag :: x.ds)) c'
/-- what the clauses ask of their classes -/
structure TagsOk (K : PySem.W.Frag) (l : List (Str × Addr × List Str)) : Prop where
  one : ∀ q ∈ l, ∀ r ∈ l, PySem.W.exmOne K (.ref q.2.1) (.ref r.2.1) = some (decide (q.2.1 = r.2.1))
  same : ∀ q ∈ l, ∀ r ∈ l, q.2.1 = r.2.1 → q = r
  nd : ∀ q ∈ l, q.2.2.Nodup ∧ q.2.2.length < 1000
section
variable {P : Program} {w : World} {K : PySem.W.Frag} {mg : Str → Option Value} {base : Heap} {kk : Nat} {f : Addr} {fd : FuncData}
theorem ok_fault {x : Str} {st : Stmt} {l : List (Str × Addr × List Str)} (Fd : FunD K x x (defArgs st) (defBody st) (defScope st) [] [] f fd) (S : FnScope ["work", "fault"] ["work"] (defScope st)) (T : TagsOk K l)
    (hbody : ∀ X : Cx, X.prog = P → X.w = w → X.K = K → X.mg = mg → X.base = base → X.N = [("work" : Str), ("fault" : Str)] → X.env.scope = defScope st → X.stack = X.env :: X.outer → X.env.frame = some X.env.locals → Room kk X.A → X.A.guards = some [] → ∀ Wout : WX, Takes X Wout →
      PSs X (defBody st) (tSeq (fun D σ H => tWork P w K mg base kk (TryR.aim K 1 Wout D.rt (l.map (clOf K))) D σ H) (tRet (tC .non)))) :
    Gd.FnG P w K mg base (L2.CX P w) (kk + 1) f fd ["work"] (spF false [] (Φ_fault P w K mg base kk l)) := by
  refine Gd.fnG_of Fd S (fun vs H Q E h => ?_) (fun cdv A outer s H vs Q E hr hG h => ?_)
  · obtain ⟨M, us, ds, c, R, RX, h1, h2, ht, rfl, h4, h5, ⟨d, env, Ψ, rfl, _⟩, _⟩ := h
    cases q : M.pen with
    | none =>
      cases h5 with
      | cons a t =>
        cases t
        rfl
    | some p => rw [q] at h2; cases h2
  · obtain ⟨M, us, ds, c, R, RX, h1, h2, ht, rfl, h4, h5, ⟨d, env, Ψ, rfl, hfl, hC, hΨ⟩, h7, h8⟩ := h
    subst h1
    have pn : M.pen = none := by
      cases q : M.pen with
      | none => rfl
      | some p => rw [q] at h2; cases h2
    have tb := ht
    obtain ⟨pen, G0, H0, tabs⟩ := M
    obtain rfl : pen = none := pn
    obtain rfl : tabs = [] := tb
    refine ⟨_, hbody (cxOf (L2.CX P w) P w K mg base ([("work" : Str), ("fault" : Str)]) x (defScope st) f cdv A outer s H0 E) rfl rfl rfl rfl rfl rfl rfl rfl rfl hr hG (fun cls d _ H => E cls d H) body_takes, ?_⟩
    cases h5 with
    | cons a t =>
      cases t
      cases a with
      | @sc f0 d vs env la sc hv =>
        have ex : Ex G0 H0 := h4.ex
        refine ⟨f0, d, vs, _, rfl, hC, la.mono ex, sc.mono ex, G0, env, c, _, _, ex, hv, hfl, hΨ, fun d' c' v G' H' hR fo hv' => ?_, fun y c' cls dd G' H' hy fo xo => ?_⟩
        · exact h7 .non c' .non G' H' hR fo .non
        · obtain ⟨tag, hm, hR⟩ := hy
          obtain ⟨x1, dx, us, x2, x3, x4, x5⟩ := xo
          subst x1 x2
          have hn := T.nd _ hm
          refine aim_ok rfl x3 x4 hn.1 (by have := hn.2; have : y.ns.length < 1000 := this; omega) l tag (fun q hq => T.one _ hm q hq) (fun q hq e => ?_) ⟨_, hm, rfl⟩ fun p H2 hp e => ?_
          · have := T.same q hq _ hm e
            rw [this]
            exact ⟨rfl, rfl⟩
          · subst e
            have gp := ex_none fo.ex hp
            have eg := ex_new (o := .tup (.str tag :: us)) gp
            refine h7 _ c' _ (upd G' p (.tup (.str tag :: us))) _ hR ⟨fo.g.tr eg, ex_fix fo.ex, fun b hb hn => ?_, (fun p L z => nomatch z), ⟨(fun p hp => nomatch hp), (fun q hq => nomatch hq)⟩⟩ (.tup upd_at (.cons (.str tag) (Vds.mono eg x5)))
            obtain ⟨e1, e2⟩ := fo.fr b hb hn
            have nb : b ≠ p := fun z => hb (by rw [← e1, z]; exact hp)
            exact ⟨(upd_ne nb).trans e1, (upd_ne nb).trans e2⟩
end
end DL
/-! + * of any kind, slices, loops over what is a list or a tuple, builtins, repr -/
namespace DL
open PySem PySem.Spec PyProof.Rows L2
/-! ### cuts -/
def cutD (xs : List D) (lo hi : Option Int) : List D := (xs.drop (HT.sIx xs.length 0 lo)).take (HT.sIx xs.length xs.length hi - HT.sIx xs.length 0 lo)
theorem Vds.drop {G : Hp} : ∀ {ds : List D} {vs : List V}, Vds G vs ds → ∀ n : Nat, Vds G (vs.drop n) (ds.drop n)
  | _, _, h, 0 => h
  | _, _, .nil, _ + 1 => .nil
  | _, _, .cons _ t, n + 1 => t.drop n
theorem Vds.take {G : Hp} : ∀ {ds : List D} {vs : List V}, Vds G vs ds → ∀ n : Nat, Vds G (vs.take n) (ds.take n)
  | _, _, _, 0 => .nil
  | _, _, .nil, _ + 1 => .nil
  | _, _, .cons h t, n + 1 => .cons h (t.take n)
theorem Vds.cut {G : Hp} {ds : List D} {vs : List V} (h : Vds G vs ds) (lo hi : Option Int) : Vds G (cutV vs lo hi) (cutD ds lo hi) := by
  unfold cutV cutD
  rw [h.len]
  exact (h.drop _).take _
theorem Vds.rep {G : Hp} {ds : List D} {vs : List V} (h : Vds G vs ds) : ∀ n : Nat, Vds G (List.replicate n vs).flatten (List.replicate n ds).flatten
  | 0 => .nil
  | n + 1 => by
    rw [List.replicate_succ, List.replicate_succ, List.flatten_cons, List.flatten_cons]
    exact h.app (h.rep n)
section
variable {P : Program} {w : World} {K : PySem.W.Frag} {mg : Str → Option Value} {base : Heap} {k : Nat} {M : Cm} {F : Fam P w K mg base k}
theorem OSound.or {r r' : R2} {ρ ρ' σ : DO} (h : OSound r ρ) (h' : OSound r' ρ') (hs : ∀ a b R, σ a b R → ρ a b R ∨ ρ' a b R) : OSound (fun x y H Q => r x y H Q ∨ r' x y H Q) σ := by
  intro G H x y a b R Q e hx hy hh q q2
  rcases hs a b R hh with z | z
  · exact .inl (h G H x y a b R Q e hx hy z q q2)
  · exact .inr (h' G H x y a b R Q e hx hy z q q2)
/-! ### + -/
@[simp] def oCatA : DO := fun a b R => match a, b with
  | .tup xs, .tup ys => xs.length + ys.length ≤ 10000 ∧ R (.tup (xs ++ ys))
  | _, _ => False
theorem o_catA : OSound (rCatA K) oCatA := by
  intro G H x y a b R Q e hx hy h q q2
  unfold oCatA at h
  split at h
  · rename_i xs ys
    cases hx with
    | @tup p vs _ hp hv =>
      cases hy with
      | @tup p2 us _ hp2 hu =>
        refine ⟨p, p2, vs, us, rfl, rfl, .inl (.inl (e _ _ hp)), .inl (.inl (e _ _ hp2)), by rw [hv.len, hu.len, sizeLine_eq]; have := h.1; omega, fun z => ?_, fun _ z => ?_, fun _ _ l hl => q2 _ _ l _ h.2 hl (fun G' eg hl' => .tup hl' (Vds.mono eg (hv.app hu))) rfl⟩
        · have e1 : xs = [] := List.eq_nil_of_length_eq_zero (by rw [← hv.len, z]; rfl)
          subst e1
          exact q _ _ h.2 (.tup hp2 hu)
        · have e1 : ys = [] := List.eq_nil_of_length_eq_zero (by rw [← hu.len, z]; rfl)
          subst e1
          rw [List.append_nil] at h
          exact q _ _ h.2 (.tup hp hv)
  · exact h.elim
@[simp] def oCatL : DO := fun a b R => match a, b with
  | .lst xs, .lst ys => xs.length + ys.length ≤ 10000 ∧ R (.lst (xs ++ ys))
  | _, _ => False
theorem o_catL : OSound rCat oCatL := by
  intro G H x y a b R Q e hx hy h q q2
  unfold oCatL at h
  split at h
  · rename_i xs ys
    cases hx with
    | @lst p vs _ hp hv =>
      cases hy with
      | @lst p2 us _ hp2 hu =>
        exact ⟨p, p2, vs, us, rfl, rfl, e _ _ hp, e _ _ hp2, by rw [hv.len, hu.len, sizeLine_eq]; have := h.1; omega, fun l hl => q2 _ _ l _ h.2 hl (fun G' eg hl' => .lst hl' (Vds.mono eg (hv.app hu))) rfl⟩
  · exact h.elim
@[simp] def oAddX : DO := fun a b R => match a, b with
  | .int i, .int j => R (.int (i + j))
  | .tup xs, .tup ys => xs.length + ys.length ≤ 10000 ∧ R (.tup (xs ++ ys))
  | .lst xs, .lst ys => xs.length + ys.length ≤ 10000 ∧ R (.lst (xs ++ ys))
  | _, _ => False
theorem e_addX {x y : Expr} {pos} {φ ψ : DE} (h1 : ED M F x φ) (h2 : ED M F y ψ) : ED M F (.BinOp x .Add y pos) (dOp oAddX φ ψ) := by
  refine e_op (r := fun x y H Q => (rI0 fun i j => .int (i + j)) x y H Q ∨ (rCatA K x y H Q ∨ rCat x y H Q)) (fun j => OpR.or2 op_add (OpR.or2 (by have := op_catA (X := F.X j); rw [F.hK j] at this; exact this) op_cat))
    (OSound.or (ρ := oI0 fun i j => .int (i + j)) (o_I0 fun _ _ _ => .int _) (OSound.or (σ := fun a b R => oCatA a b R ∨ oCatL a b R) o_catA o_catL fun a b R h => h) fun a b R h => ?_) h1 h2
  unfold oAddX at h
  split at h
  · exact .inl h
  · exact .inr (.inl h)
  · exact .inr (.inr h)
  · exact h.elim
/-! ### * -/
@[simp] def oRepL : DO := fun a b R => match a, b with
  | .lst xs, .int n => n < 10000 ∧ -10000 < n ∧ xs.length * n.toNat ≤ 10000 ∧ R (.lst (List.replicate n.toNat xs).flatten)
  | _, _ => False
theorem o_repL : OSound rRep oRepL := by
  intro G H x y a b R Q e hx hy h q q2
  unfold oRepL at h
  split at h
  · rename_i xs n
    obtain ⟨h1, h2, h3, h4⟩ := h
    cases hy
    cases hx with
    | @lst p vs _ hp hv =>
      exact ⟨p, n, vs, rfl, rfl, e _ _ hp, by omega, by omega, by rw [hv.len, sizeLine_eq]; omega, fun l hl => q2 _ _ l _ h4 hl (fun G' eg hl' => .lst hl' (Vds.mono eg (hv.rep _))) rfl⟩
  · exact h.elim
@[simp] def oRepT : DO := fun a b R => match a, b with
  | .tup xs, .int n => xs ≠ [] ∧ 2 ≤ n ∧ n ≤ 1000 ∧ xs.length ≤ 1000 ∧ R (.tup (List.replicate n.toNat xs).flatten)
  | _, _ => False
theorem o_repT : OSound (rRepT K) oRepT := by
  intro G H x y a b R Q e hx hy h q q2
  unfold oRepT at h
  split at h
  · rename_i xs n
    obtain ⟨h0, h1, h2, h3, h4⟩ := h
    cases hy
    cases hx with
    | @tup p vs _ hp hv =>
      refine ⟨p, n, vs, rfl, rfl, .inl (.inl (e _ _ hp)), fun z => h0 (List.eq_nil_of_length_eq_zero (by rw [← hv.len, z]; rfl)), h1, h2, by rw [hv.len]; exact h3, fun l hl => q2 _ _ l _ h4 hl (fun G' eg hl' => .tup hl' (Vds.mono eg (hv.rep _))) rfl⟩
  · exact h.elim
@[simp] def oMulX : DO := fun a b R => match a, b with
  | .int i, .int j => CMul i j ∧ R (.int (i * j))
  | .lst xs, .int n => n < 10000 ∧ -10000 < n ∧ xs.length * n.toNat ≤ 10000 ∧ R (.lst (List.replicate n.toNat xs).flatten)
  | .tup xs, .int n => xs ≠ [] ∧ 2 ≤ n ∧ n ≤ 1000 ∧ xs.length ≤ 1000 ∧ R (.tup (List.replicate n.toNat xs).flatten)
  | _, _ => False
theorem e_mulX {x y : Expr} {pos} {φ ψ : DE} (h1 : ED M F x φ) (h2 : ED M F y ψ) : ED M F (.BinOp x .Mult y pos) (dOp oMulX φ ψ) := by
  refine e_op (r := fun x y H Q => (rI CMul fun i j => .int (i * j)) x y H Q ∨ (rRep x y H Q ∨ rRepT K x y H Q)) (fun j => OpR.or2 op_mul (OpR.or2 op_rep (by have := op_repT (X := F.X j); rw [F.hK j] at this; exact this)))
    (OSound.or (ρ := oI CMul fun i j => .int (i * j)) (o_I fun _ _ _ => .int _) (OSound.or (σ := fun a b R => oRepL a b R ∨ oRepT a b R) o_repL o_repT fun a b R h => h) fun a b R h => ?_) h1 h2
  unfold oMulX at h
  split at h
  · exact .inl h
  · exact .inr (.inl h)
  · exact .inr (.inr h)
  · exact h.elim
/-! ### slices -/
variable (M F) in
def EO (e : Option Expr) (φ : S → (Option Int → S → Prop) → Prop) : Prop := ∃ t, (∀ j, PO (F.X j) e t) ∧ ∀ (s : S) (σ : L2.St) (G H : Hp) (R : Option Int → S → Prop) (Q : Option Int → Hp → Prop), Rel M s σ G H → φ s R → (∀ o s' G' H', R o s' → Rel M s' σ G' H' → Go M σ s G H s' G' H' → Q o H') → t σ H Q
@[simp] def oNo : S → (Option Int → S → Prop) → Prop := fun s R => R none s
@[simp] def oSome (φ : DE) : S → (Option Int → S → Prop) → Prop := fun s R => φ s fun d s1 => match d with
  | .int i => R (some i) s1
  | _ => False
theorem o_none : EO M F none oNo := ⟨_, fun _ => po_none, fun s σ G H R Q rel h q => q _ _ _ _ h rel Go.rf⟩
theorem o_some {e : Expr} {φ : DE} (h : ED M F e φ) : EO M F (some e) (oSome φ) := by
  obtain ⟨t, p, a⟩ := h
  refine ⟨_, fun j => po_some (p j), fun s σ G H R Q rel h q => ?_⟩
  refine a s σ G H _ _ rel h fun d s1 v G1 H1 h1 r1 g1 hv => ?_
  split at h1
  · cases hv
    exact ⟨_, rfl, q _ _ _ _ h1 r1 g1⟩
  · exact h1.elim
@[simp] def dCut (φ : DE) (lo hi : S → (Option Int → S → Prop) → Prop) : DE := fun s R => φ s fun d s1 => lo s1 fun l s2 => hi s2 fun u s3 => match d with
  | .tup xs => R (.tup (cutD xs l u)) s3
  | .lst xs => R (.lst (cutD xs l u)) s3
  | _ => False
theorem cut_all {α : Type} (xs : List α) (lo hi : Option Int) (h : HT.sIx xs.length 0 lo = 0 ∧ HT.sIx xs.length xs.length hi = xs.length) : (xs.drop (HT.sIx xs.length 0 lo)).take (HT.sIx xs.length xs.length hi - HT.sIx xs.length 0 lo) = xs := by
  rw [h.1, h.2]
  simp
theorem e_cut {x : Expr} {lo hi : Option Expr} {p2 pos : Pos} {φ : DE} {l u : S → (Option Int → S → Prop) → Prop} (h1 : ED M F x φ) (h2 : EO M F lo l) (h3 : EO M F hi u) : ED M F (.Subscript x (.Slice lo hi none p2) pos) (dCut φ l u) := by
  obtain ⟨t, p, a⟩ := h1
  obtain ⟨tl, pl, b⟩ := h2
  obtain ⟨tu, pu, c⟩ := h3
  refine ⟨tSl (fun x lo hi H Q => rSlA K x lo hi H Q ∨ rSlL K x lo hi H Q) t tl tu, fun j => pe_slice (SlR.or (by have := sl_tupA (X := F.X j); rw [F.hK j] at this; exact this) (by have := sl_list (X := F.X j); rw [F.hK j] at this; exact this)) (p j) (pl j) (pu j), fun s σ G H R Q rel h q => ?_⟩
  refine a s σ G H _ _ rel h fun d s1 v G1 H1 h1 r1 g1 hv => ?_
  refine b s1 σ G1 H1 _ _ r1 h1 fun o s2 G2 H2 h2 r2 g2 => ?_
  refine c s2 σ G2 H2 _ _ r2 h2 fun o2 s3 G3 H3 h3 r3 g3 => ?_
  have gg := g1.tr (g2.tr g3)
  have hv3 := Vd.mono (g2.tr g3).ex hv
  split at h3
  · cases hv3 with
    | @tup pp vs _ hp hvs =>
      refine .inl ⟨pp, vs, rfl, .inl (.inl (r3.ex _ _ hp)), fun z => ?_, fun _ l hl => ?_⟩
      · rw [hvs.len] at z
        unfold cutD at h3
        rw [cut_all _ _ _ z] at h3
        exact q _ _ _ _ _ h3 r3 gg (.tup hp hvs)
      · exact q _ _ _ _ _ h3 (r3.new hl) (gg.tr (.new r3 hl)) (.tup upd_at (Vds.mono (ex_new (ex_none r3.ex hl)) (hvs.cut _ _)))
  · cases hv3 with
    | @lst pp vs _ hp hvs =>
      exact .inr ⟨pp, vs, rfl, .inl (.inl (r3.ex _ _ hp)), fun l hl => q _ _ _ _ _ h3 (r3.new hl) (gg.tr (.new r3 hl)) (.lst upd_at (Vds.mono (ex_new (ex_none r3.ex hl)) (hvs.cut _ _)))⟩
  · exact h3.elim
/-! ### loops over a list or a tuple -/
@[simp] def dSeq2 (φ : DE) : DA := fun s R => φ s fun d s1 => match d with
  | .lst ds => R ds s1
  | .tup ds => R ds s1
  | _ => False
/-- what is to be walked: a list or a tuple, which one is seen when it stands -/
def iSeq2 (K : PySem.W.Frag) (te : TE) : TI := fun σ H R => te σ H fun x H1 => ∃ a, x = .ref a ∧ ((∃ xs, SqL K H1 a xs) ∧ R (Itl K a) H1 ∨ (∃ xs, SqT K H1 a xs) ∧ R (Itt K a) H1)
theorem pi_seq2 {X : Cx} {tg l : Expr} {te : TE} (he : PE X l te) : PI X tg l (iSeq2 X.K te) := by
  constructor
  intro pins s σ H R I h
  refine thn (he.run pins s σ H _ I h) fun v s1 ⟨x, H1, I1, r1, a, e, z⟩ => ?_
  subst e
  cases r1
  have out : ∀ b ∈ [s1.heap.objs.size], b = s1.heap.objs.size := fun b hb => List.mem_singleton.mp hb
  have fp := I1.fpOk (Nat.le_refl _) (I1.hok.fresh (Nat.le_refl _))
  rcases z with ⟨⟨xs, hq⟩, q⟩ | ⟨⟨xs, hq⟩, q⟩
  · obtain ⟨its, rv, p, hz⟩ := I1.list hq
    apply wpAny_pyIter_list p.isList
    exact ⟨s1.heap.objs.size, [s1.heap.objs.size], _, _, H1, rfl, I1.kept (t' := s1.toks) fun b o e => Heap.get?_push_of_some _ e, turn_list a _, ⟨_, Heap.get?_push_size _ rfl, rfl, rfl⟩, fun b hb => by rw [out b hb]; exact fp, q⟩
  · obtain ⟨its, rv, p, hz⟩ := I1.tuple hq
    apply wpAny_pyIter_tuple (show s1.heap.IsTuple a its.toArray from p)
    exact ⟨s1.heap.objs.size, [s1.heap.objs.size], _, _, H1, rfl, I1.kept (t' := s1.toks) fun b o e => Heap.get?_push_of_some _ e, turn_tuple a _, ⟨_, Heap.get?_push_size _ rfl, rfl, rfl⟩, fun b hb => by rw [out b hb]; exact fp, q⟩
theorem id_seq2 {tg e : Expr} {φ : DE} (h : ED M F e φ) : ID M F tg e (dSeq2 φ) := by
  obtain ⟨t, p, a⟩ := h
  refine ⟨iSeq2 K t, fun j => by have := pi_seq2 (tg := tg) (p j); rw [F.hK j] at this; exact this, fun s σ G H R Q rel h q => ?_⟩
  refine a s σ G H _ _ rel h fun d s1 v G1 H1 h1 r1 g1 hv => ?_
  split at h1
  · cases hv with
    | @lst x vs ds hx hvs => exact ⟨x, rfl, .inl ⟨⟨vs, .inl (.inl (r1.ex _ _ hx))⟩, q _ _ _ _ _ h1 r1 g1 (over_list hx hvs)⟩⟩
  · cases hv with
    | @tup x vs ds hx hvs => exact ⟨x, rfl, .inr ⟨⟨vs, .inl (.inl (r1.ex _ _ hx))⟩, q _ _ _ _ _ h1 r1 g1 (over_tup hx hvs)⟩⟩
  · exact h1.elim
/-! ### builtins -/
@[simp] def cAbs : List D → (D → Prop) → Prop := fun ds R => match ds with
  | [.int i] => R (.int (if i < 0 then -i else i))
  | _ => False
theorem c_abs : CSound (fun xs H Q => ∃ i, xs = [.int i] ∧ Q (.int (if i < 0 then -i else i)) H) cAbs := by
  intro G H xs ds R Q e hv h q _
  unfold cAbs at h
  split at h
  · cases hv with
    | cons a t =>
      cases t
      cases a
      exact ⟨_, rfl, q _ _ h (.int _)⟩
  · exact h.elim
@[simp] def cMin2 : List D → (D → Prop) → Prop := fun ds R => match ds with
  | [.int i, .int j] => R (.int (if j < i then j else i))
  | _ => False
@[simp] def cMax2 : List D → (D → Prop) → Prop := fun ds R => match ds with
  | [.int i, .int j] => R (.int (if j > i then j else i))
  | _ => False
theorem c_min2 : CSound (fun xs H Q => ∃ i j, xs = [.int i, .int j] ∧ Q (.int (if j < i then j else i)) H) cMin2 := by
  intro G H xs ds R Q e hv h q _
  unfold cMin2 at h
  split at h
  · cases hv with
    | cons a t =>
      cases t with
      | cons b t =>
        cases t
        cases a
        cases b
        exact ⟨_, _, rfl, q _ _ h (.int _)⟩
  · exact h.elim
theorem c_max2 : CSound (fun xs H Q => ∃ i j, xs = [.int i, .int j] ∧ Q (.int (if j > i then j else i)) H) cMax2 := by
  intro G H xs ds R Q e hv h q _
  unfold cMax2 at h
  split at h
  · cases hv with
    | cons a t =>
      cases t with
      | cons b t =>
        cases t
        cases a
        cases b
        exact ⟨_, _, rfl, q _ _ h (.int _)⟩
  · exact h.elim
/-- max, min of a list of ints -/
@[simp] def cMaxL : List D → (D → Prop) → Prop := fun ds R => match ds with
  | [.lst xs] => ∃ ns, intsD xs = some ns ∧ 0 < ns.length ∧ ∀ m, m ∈ ns → (∀ y, y ∈ ns → y ≤ m) → R (.int m)
  | _ => False
theorem c_maxL : CSound (rMax K) cMaxL := by
  intro G H xs ds R Q e hv h q _
  unfold cMaxL at h
  split at h
  · obtain ⟨ns, h1, h2, h3⟩ := h
    cases hv with
    | cons a t =>
      cases t
      cases a with
      | @lst p vs _ hp hv => exact ⟨p, ns, rfl, .inl (.inl (by rw [← ints_v hv h1]; exact e _ _ hp)), h2, fun m m1 m2 => q _ _ (h3 m m1 m2) (.int _)⟩
  · exact h.elim
theorem boot_abs : bootBuiltins "abs" = some (.builtin "abs") := by decide +kernel
theorem boot_min : bootBuiltins "min" = some (.builtin "min") := by decide +kernel
theorem boot_max : bootBuiltins "max" = some (.builtin "max") := by decide +kernel
theorem boot_sorted : bootBuiltins "sorted" = some (.builtin "sorted") := by decide +kernel
theorem boot_repr : bootBuiltins "repr" = some (.builtin "repr") := by decide +kernel
theorem e_abs {p pos : Pos} {a : Expr} {ψ : DA} (hm : mg "abs" = none) (ha : EA M F [a] ψ) (hg : ∀ j, Gl (F.X j) "abs") (he : ∀ j, starEach [a] (F.X j).env = (false, eval a (F.X j).env) :: starEach [] (F.X j).env := by intro _; rfl) (hpl : ∀ j, (backTo pos (starEach [] (F.X j).env)).any (·.1) = false := by intro _; rfl) :
    ED M F (.Call (.Name "abs" p) [a] [] pos) (dCB cAbs ψ) := e_callB (fun j => call_abs) c_abs hm boot_abs ha hg (by decide) (by decide) he hpl
theorem e_min2 {p pos : Pos} {a b : Expr} {ψ : DA} (hm : mg "min" = none) (ha : EA M F [a, b] ψ) (hg : ∀ j, Gl (F.X j) "min") (he : ∀ j, starEach [a, b] (F.X j).env = (false, eval a (F.X j).env) :: starEach [b] (F.X j).env := by intro _; rfl) (hpl : ∀ j, (backTo pos (starEach [b] (F.X j).env)).any (·.1) = false := by intro _; rfl) :
    ED M F (.Call (.Name "min" p) [a, b] [] pos) (dCB cMin2 ψ) := e_callB (fun j => call_min2 (F.hc j)) c_min2 hm boot_min ha hg (by decide) (by decide) he hpl
theorem e_max2 {p pos : Pos} {a b : Expr} {ψ : DA} (hm : mg "max" = none) (ha : EA M F [a, b] ψ) (hg : ∀ j, Gl (F.X j) "max") (he : ∀ j, starEach [a, b] (F.X j).env = (false, eval a (F.X j).env) :: starEach [b] (F.X j).env := by intro _; rfl) (hpl : ∀ j, (backTo pos (starEach [b] (F.X j).env)).any (·.1) = false := by intro _; rfl) :
    ED M F (.Call (.Name "max" p) [a, b] [] pos) (dCB cMax2 ψ) := e_callB (fun j => call_max2 (F.hc j)) c_max2 hm boot_max ha hg (by decide) (by decide) he hpl
theorem e_maxL {p pos : Pos} {a : Expr} {ψ : DA} (hm : mg "max" = none) (ha : EA M F [a] ψ) (hg : ∀ j, Gl (F.X j) "max") (he : ∀ j, starEach [a] (F.X j).env = (false, eval a (F.X j).env) :: starEach [] (F.X j).env := by intro _; rfl) (hpl : ∀ j, (backTo pos (starEach [] (F.X j).env)).any (·.1) = false := by intro _; rfl) :
    ED M F (.Call (.Name "max" p) [a] [] pos) (dCB cMaxL ψ) := e_callB (fun j => by have := cr_max (X := F.X j) (F.hc j); rw [F.hK j] at this; exact this) c_maxL hm boot_max ha hg (by decide) (by decide) he hpl
/-- x.bit_length() -/
@[simp] def dBits (φ : DE) : DE := fun s R => φ s fun d s1 => match d with
  | .int i => R (.int (Builtin.Int.intBits i : Nat)) s1
  | _ => False
theorem e_bits {o : Expr} {apos pos : Pos} {φ : DE} (h : ED M F o φ) (hb : ∀ j, attributeBase o "bit_length" (F.X j).env (eval o (F.X j).env) = eval o (F.X j).env := by intro _; rfl) (hl : (apos.endLine == pos.line) = true := by rfl) : ED M F (.Call (.Attribute o "bit_length" apos) [] [] pos) (dBits φ) := by
  obtain ⟨t, p, a⟩ := h
  refine ⟨_, fun j => pe_bits (p j) (hb j) hl, fun s σ G H R Q rel h q => ?_⟩
  refine a s σ G H _ _ rel h fun d s1 v G1 H1 h1 r1 g1 hv => ?_
  split at h1
  · cases hv
    exact ⟨_, rfl, q _ _ _ _ _ h1 r1 g1 (.int _)⟩
  · exact h1.elim
end
end DL
/-! set(list of ints), sorted(set(..)) -/
namespace SetL
open PySem PySem.Spec PyProof.Rows L2
section
variable {P : Program} {w : World} {A : Around} {E : Value → Shared → Prop} {s : Shared}
/-- the new set, still empty -/
abbrev emp (w : World) : Obj := { cls := .type "set", dict := none, data := .set #[] 0 (.fresh 0 0 (!w.params.followText "set-order")) }
theorem int_at {items : Array Value} {ns : List Int} (hz : items.size = ns.length) (hit : IntsAre items.toList ns) (i : Nat) (v : Value) (hv : items[i]? = some v) : ∃ k t, ns[i]? = some k ∧ v = .int k t := by
  have hi : i < ns.length := hz ▸ (Array.getElem?_eq_some_iff.mp hv).1
  obtain ⟨t, e⟩ := PyProof.Rows.IntsAre.int_at hit i v ((Array.getElem?_toList ..).trans hv)
  rw [List.getD_eq_getElem?_getD, List.getElem?_eq_getElem hi] at e
  exact ⟨ns[i], t, List.getElem?_eq_getElem hi, e⟩
/-- set.__init__ of the new set, from a list -/
theorem init_list {l : Addr} {items : Array Value} {ns : List Int} {Q : Value → Shared → Prop} (hh : A.handled = none) (hl : s.heap.IsList l items) (hit : IntsAre items.toList ns) (hb : ns.length + 1 < scanBound)
    (h : ∀ (h' : Heap) (tk c : Nat), SetR w h' s.heap.objs.size (fun j => decide (j ∈ ns)) c → c ≤ ns.length → (∀ b o, s.heap.get? b = some o → h'.get? b = some o) → Q .none { s with heap := h', toks := tk }) :
    codeAny (model P w) A (.call (.builtin "set.__init__") ⟨[.ref s.heap.objs.size, .ref l], []⟩) (wants Q E) { s with heap := s.heap.push (emp w) } := by
  have hz : items.size = ns.length := (Array.length_toList ..).symm.trans (IntsAre.length hit)
  obtain ⟨S, eS⟩ : ∃ S, S = s.heap.objs.size := ⟨_, rfl⟩
  have at_ : (s.heap.push (emp w)).get? S = some (emp w) := by rw [eS]; exact Heap.get?_push_size _ rfl
  have sz : (s.heap.push (emp w)).objs.size = S + 1 := by rw [eS]; exact Heap.size_push ..
  rw [← eS] at h ⊢
  refine codeAny_call_builtin F.called_set.init.plain F.entry_set_init (check_set_init_1 ⟨_, at_, rfl⟩ ?_)
  obtain ⟨⟨cl, di, da, slo⟩, hol, hcl, nl, hda⟩ := hl
  have hcl : cl = .type "list" := hcl
  have hda : da = .seq items nl := hda
  subst hcl hda
  have lS : l < S := by rw [eS]; exact Heap.lt_size hol
  have hol' := Heap.get?_push_of_some (emp w) hol
  have hL : (s.heap.push (emp w)).IsList l items := ⟨_, hol', rfl, nl, rfl⟩
  have ne1 := F.sub_list_set
  have ne2 := F.sub_list_frozenset
  have ne3 : (Value.type "list" == Value.type "dict") = false := by decide
  unfold Builtin.«set.__init__» noKeywords Builtin.Frozenset.updateFrom
  generalize eP : pyIter = py
  wp_walk
  subst eP
  apply wpAny_pyIter_list hL
  apply wpAny_bind
  apply wpAny_runValue
  have out : l ≠ (s.heap.push (emp w)).objs.size := by
    rw [sz]
    exact Nat.ne_of_lt (Nat.lt_succ_of_lt lS)
  have noS : S ∉ [(s.heap.push (emp w)).objs.size, l] := by
    rw [sz]
    simp only [List.mem_cons, List.not_mem_nil, or_false, not_or]
    exact ⟨Nat.ne_of_lt (Nat.lt_succ_self _), Nat.ne_of_gt lS⟩
  refine set_update_ints ((Walks.list (by simp [hh]) _ l out items).toS) S noS ns hz hb (int_at hz hit) (items.size - 0) 0 _ (by omega) (Nat.zero_le _) ⟨⟨_, Heap.get?_push_size _ rfl, rfl, rfl⟩, hL.push _⟩ ⟨0, Nat.le_refl 0, setR_new_at (Heap.get?_push_of_some _ at_)⟩ ?_
  rintro ⟨h', g2, d', tk', os'⟩ c' hm hc' hS'
  obtain rfl : g2 = s.gens := hm.gens
  obtain rfl : d' = s.drawn := hm.drawn
  obtain rfl : os' = s.os := hm.os
  show wpAny _ _ _ _ _ _
  apply wpAny_pure
  show wpAny _ _ (ret Value.none) _ _ _
  rw [hz] at hc'
  apply wpAny_pure
  refine h h' tk' c' hS' hc' fun b o e => ?_
  have lb : b < S := by rw [eS]; exact Heap.lt_size e
  refine hm.heap b o ?_ (Heap.get?_push_of_some _ (Heap.get?_push_of_some _ e))
  rw [sz]
  simp only [List.mem_cons, List.not_mem_nil, or_false, not_or]
  exact ⟨Nat.ne_of_lt lb, Nat.ne_of_lt (Nat.lt_succ_of_lt lb)⟩
/-- set(l), l a list of ints -/
theorem set_of_list {l : Addr} {items : Array Value} {ns : List Int} {Q : Value → Shared → Prop} (hh : A.handled = none) (hl : s.heap.IsList l items) (hit : IntsAre items.toList ns) (hb : ns.length + 1 < scanBound)
    (h : ∀ (h' : Heap) (tk c : Nat), SetR w h' s.heap.objs.size (fun j => decide (j ∈ ns)) c → c ≤ ns.length → (∀ b o, s.heap.get? b = some o → h'.get? b = some o) → Q (.ref s.heap.objs.size) { s with heap := h', toks := tk }) :
    wpAny (model P w) A (call (.type "set") [.ref l]) Q E s := by
  obtain ⟨c, tl, mro⟩ := F.called_set.mro
  have made := F.called_set.made
  have sub := F.called_set.sub
  apply wpAny_call
  apply codeAny_of_tree
  show wpAny _ _ (callAny (.type "set") _) _ _ _
  apply wpAny_pure
  refine ⟨Code.quiet_builtin _ (by decide +kernel), codeAny_builtin F.entry_type_call ?_⟩
  rw [Around.under_plain (weight_type_call_type "set" [.ref l] []) rfl]
  have k1 := F.called_set.notType
  have k2 := F.called_set.canCreate
  have k3 := F.typeCall_set_1 (.ref l)
  repeat any_goals first | assumption | wp_step
  refine codeAny_mono (code_set_led1 (.ref l) (E := E) (Q₁ := fun o s₁ => o = .ref s.heap.objs.size ∧ s₁ = { s with heap := s.heap.push (emp w) }) ⟨rfl, rfl⟩) ?_
  intro r s₁ hr
  match r, hr with
  | .error e, hr => exact hr
  | .ok .next, hr => exact hr.elim
  | .ok .brk, hr => exact hr.elim
  | .ok .cont, hr => exact hr.elim
  | .ok (.ret _), ⟨e1, e2⟩ =>
    subst e1 e2
    have ty : Shared.TypeIs { s with heap := s.heap.push (emp w) } (.ref s.heap.objs.size) "set" := ⟨_, Heap.get?_push_size _ rfl, rfl⟩
    have li := F.called_set.init.lookup
    have bi := F.called_set.init.bind (.ref s.heap.objs.size)
    repeat any_goals first | assumption | wp_step
    refine codeAny_mono (init_list (E := E) (Q := fun v s₂ => v = .none ∧ Q (.ref s.heap.objs.size) s₂) (A := _) (by simp [hh]) hl hit hb fun h' tk c a b d => ⟨rfl, h h' tk c a b d⟩) ?_
    intro r₂ s₂ hr₂
    match r₂, hr₂ with
    | .error e, hr₂ => exact hr₂
    | .ok .next, hr₂ => exact hr₂.elim
    | .ok .brk, hr₂ => exact hr₂.elim
    | .ok .cont, hr₂ => exact hr₂.elim
    | .ok (.ret _), ⟨e3, hq⟩ =>
      subst e3
      repeat any_goals first | assumption | wp_step
end
section
variable {X : Cx}
def rSetL (K : PySem.W.Frag) (w : World) : List V → Hp → VK → Prop := fun xs H Q => ∃ (l : Addr) (ns : List Int), xs = [.ref l] ∧ SqL K H l (ns.map V.int) ∧ ns.length ≤ 1000 ∧ ∀ p c, H p = none → c ≤ ns.length → Q (.ref p) (upd H p (SetO w p (fun j => decide (j ∈ ns)) c))
theorem cr_setL (hc : X.calm = true) : CallR X (.type "set") (rSetL X.K X.w) := by
  intro pins s σ H xs us Q I r h
  obtain ⟨l, ns, rfl, hq, hl, q⟩ := h
  obtain ⟨u, rfl, ru⟩ := r.one
  cases ru
  obtain ⟨its, rv, pl, hz⟩ := I.list hq
  refine set_of_list (I.ok.hd hc) pl.isList (ns := ns) (by simpa using ints_of_vals rv) (by unfold scanBound; omega) fun h' tk c hS hc' hk => ?_
  have nf : H s.heap.objs.size = none := I.hok.fresh (Nat.le_refl _)
  exact ⟨.ref s.heap.objs.size, _, I.laid (t' := tk) hk (Nat.le_refl _) (setO_new hS), rfl, q _ c nf hc'⟩
end
end SetL
/-! lists and dicts of one's own: looked at, written; sorted -/
namespace DL
open PySem PySem.Spec PyProof.Rows L2
@[simp] def isL (s : S) (i : Nat) : Prop := match s.sl[i]? with
  | some (.own (.l _)) => True
  | _ => False
@[simp] def isK (s : S) (i : Nat) : Prop := match s.sl[i]? with
  | some (.own (.k _)) => True
  | _ => False
section
variable {P : Program} {w : World} {K : PySem.W.Frag} {mg : Str → Option Value} {base : Heap} {k : Nat} {M : Cm} {F : Fam P w K mg base k}
theorem isL_at {s : S} {i : Nat} (h : isL s i) : ∃ ds, s.sl[i]? = some (.own (.l ds)) := by
  unfold isL at h
  split at h
  · exact ⟨_, by assumption⟩
  · exact h.elim
theorem isK_at {s : S} {i : Nat} (h : isK s i) : ∃ ds, s.sl[i]? = some (.own (.k ds)) := by
  unfold isK at h
  split at h
  · exact ⟨_, by assumption⟩
  · exact h.elim
/-! ### x[n], x[n] = e -/
@[simp] def dIxO (i : Nat) (φ : DE) : DE := fun s R => isL s i ∧ φ s fun d s1 => match d, s1.sl[i]? with
  | .int n, some (.own (.l ds)) => ∃ y, atI ds n = some y ∧ R y s1
  | _, _ => False
theorem e_ixO (i : Nat) {x y : Expr} {pos} {φ : DE} (hv : ∀ j, PE (F.X j) x (tVar i)) (h2 : ED M F y φ) (hs : PlainIx y := by intro _ _; rfl) : ED M F (.Subscript x y pos) (dIxO i φ) := by
  obtain ⟨u, p2, b⟩ := h2
  refine ⟨_, fun j => by have := pe_ix (pos := pos) (ix_list (X := F.X j)) (hv j) (p2 j) hs; rw [F.hK j] at this; exact this, fun s σ G H R Q rel h q => ?_⟩
  obtain ⟨h0, h⟩ := h
  obtain ⟨ds0, hi0⟩ := isL_at h0
  obtain ⟨a, vs0, x1, x2, x3, _⟩ := rel.getL hi0
  refine ⟨_, x1, ?_⟩
  refine b s σ G H _ _ rel h fun d s1 v G1 H1 h1 r1 g1 hv => ?_
  split at h1
  · rename_i n ds hi
    obtain ⟨y, hy, hR⟩ := h1
    cases hv
    obtain ⟨a', vs, y1, y2, y3, _⟩ := r1.getL hi
    rw [x1] at y1
    cases y1
    obtain ⟨v, e1, e2⟩ := vds_atI y3 hy
    exact ⟨a, vs, n, v, rfl, rfl, .inl (.inl y2), e1, q _ _ _ _ _ hR r1 g1 e2⟩
  · exact h1.elim
theorem Vds.set {G : Hp} {d : D} {v : V} (hv : Vd G v d) : ∀ {ds : List D} {vs : List V}, Vds G vs ds → ∀ n : Nat, Vds G (vs.set n v) (ds.set n d)
  | _, _, .nil, _ => .nil
  | _, _, .cons h t, 0 => .cons hv t
  | _, _, .cons h t, n + 1 => .cons h (Vds.set hv t n)
@[simp] def dSetO (i : Nat) (φi φv : DE) : DS := fun s E => φv s fun d s1 => isL s1 i ∧ φi s1 fun n s2 => match n, s2.sl[i]? with
  | .int n, some (.own (.l ds)) => ∃ j, ixN ds.length n = some j ∧ E.nx (s2.set i (.own (.l (ds.set j d))))
  | _, _ => False
theorem s_setO (i : Nat) {x y e : Expr} {tpos pos : Pos} {φi φv : DE} (hv : ∀ j, PE (F.X j) x (tVar i)) (hi : ED M F y φi) (he : ED M F e φv) (hs : ∀ j, swapsWithSole [.Subscript x y tpos] e pos.line (F.X j).env = pure false := by intro _; rfl) (hw : ∀ j, swappedStores [.Subscript x y tpos] e (F.X j).env = pure none := by intro _; rfl) (h1 : ∀ j, (assignEach [.Subscript x y tpos] (F.X j).env).map (·.2) = [assign (.Subscript x y tpos) (F.X j).env] := by intro _; rfl)
    (ha : ∀ j v, assign (.Subscript x y tpos) (F.X j).env v = (do
      let ov ← holding [v] (eval x (F.X j).env)
      let iv ← holding [v, ov] (eval y (F.X j).env)
      standAt tpos
      holding [v, ov, iv] (setItem ov iv v)
      release [v, ov, iv] []) := by intro _ _; rfl) : SD M F (.Assign [.Subscript x y tpos] e pos) (dSetO i φi φv) := by
  obtain ⟨t, p, a⟩ := he
  obtain ⟨u, p2, b⟩ := hi
  refine ⟨_, fun j => ps_asg (p j) (pg_sub (hv j) (p2 j) set_list (ha j)) (hs j) (hw j) (h1 := h1 j), fun s σ G H E Dn rel h en => ?_⟩
  refine a s σ G H _ _ rel h fun d s1 v G1 H1 h1 r1 g1 hv => ?_
  obtain ⟨h0, h1⟩ := h1
  obtain ⟨ds0, hi0⟩ := isL_at h0
  obtain ⟨ad, vs0, x1, x2, x3, _⟩ := r1.getL hi0
  refine ⟨_, x1, ?_⟩
  refine b s1 σ G1 H1 _ _ r1 h1 fun n s2 iv G2 H2 h2 r2 g2 hiv => ?_
  split at h2
  · rename_i n ds hi
    obtain ⟨j, hj, h2⟩ := h2
    cases hiv
    obtain ⟨a', vs, y1, y2, y3, _⟩ := r2.getL hi
    rw [x1] at y1
    cases y1
    exact ⟨ad, vs, n, j, rfl, rfl, y2, by rw [y3.len]; exact hj, en.nx _ _ G2 _ h2 (r2.put hi x1 (es := .l (ds.set j d)) ⟨_, rfl, Vds.set (Vd.mono g2.ex hv) y3 j⟩) (g1.ex.tr g2.ex)⟩
  · exact h2.elim
/-! ### dicts -/
@[simp] def keyD : D → Option Key
  | .int i => some (.inl i)
  | .str x => some (.inr x)
  | _ => none
def valD (kd : List (Key × D)) (k : Key) : Option D := (kd.find? fun p => decide (p.1 = k)).map (·.2)
def putD (kd : List (Key × D)) (k : Key) (d : D) : List (Key × D) := if (kd.any fun p => decide (p.1 = k)) = true then kd.map (fun p => if p.1 = k then (p.1, d) else p) else kd ++ [(k, d)]
theorem key_v {G : Hp} {v : V} {d : D} {key : Key} (h : Vd G v d) (e : keyD d = some key) : v = kV key := by
  cases d <;> cases e <;> cases h <;> rfl
theorem Kvs.val {G : Hp} {key : Key} : ∀ {kd : List (Key × D)} {kvs : List (Key × V)}, Kvs G kvs kd → (valD kd key = none ∧ valV kvs key = none) ∨ ∃ d v, valD kd key = some d ∧ valV kvs key = some v ∧ Vd G v d
  | _, _, .nil => .inl ⟨rfl, rfl⟩
  | _, _, .cons (k := k) (v := v) (d := d) h t => by
    have ih := Kvs.val (key := key) t
    unfold valD valV at ih ⊢
    by_cases e : k = key
    · exact .inr ⟨d, v, by simp [e], by simp [e], h⟩
    · simpa [e] using ih
theorem Kvs.len {G : Hp} : ∀ {kd : List (Key × D)} {kvs : List (Key × V)}, Kvs G kvs kd → kvs.length = kd.length
  | _, _, .nil => rfl
  | _, _, .cons _ t => congrArg Nat.succ t.len
theorem Kvs.any {G : Hp} {key : Key} : ∀ {kd : List (Key × D)} {kvs : List (Key × V)}, Kvs G kvs kd → (kvs.any fun p => decide (p.1 = key)) = kd.any fun p => decide (p.1 = key)
  | _, _, .nil => rfl
  | _, _, .cons _ t => by rw [List.any_cons, List.any_cons, t.any]
theorem Kvs.app {G : Hp} {key : Key} {v : V} {d : D} (hv : Vd G v d) : ∀ {kd : List (Key × D)} {kvs : List (Key × V)}, Kvs G kvs kd → Kvs G (kvs ++ [(key, v)]) (kd ++ [(key, d)])
  | _, _, .nil => .cons hv .nil
  | _, _, .cons h t => .cons h (t.app hv)
theorem Kvs.map {G : Hp} {key : Key} {v : V} {d : D} (hv : Vd G v d) : ∀ {kd : List (Key × D)} {kvs : List (Key × V)}, Kvs G kvs kd → Kvs G (kvs.map fun p => if p.1 = key then (p.1, v) else p) (kd.map fun p => if p.1 = key then (p.1, d) else p)
  | _, _, .nil => .nil
  | _, _, .cons (k := k) h t => by
    rw [List.map_cons, List.map_cons]
    by_cases e : k = key
    · rw [if_pos e, if_pos e]
      exact .cons hv (t.map hv)
    · rw [if_neg e, if_neg e]
      exact .cons h (t.map hv)
theorem Kvs.put {G : Hp} {key : Key} {v : V} {d : D} {kd : List (Key × D)} {kvs : List (Key × V)} (h : Kvs G kvs kd) (hv : Vd G v d) : Kvs G (putK kvs key v) (putD kd key d) := by
  unfold putK putD
  rw [h.any]
  split
  · exact h.map hv
  · exact h.app hv
@[simp] def dDGet (i : Nat) (φ : DE) : DE := fun s R => isK s i ∧ φ s fun d s1 => match keyD d, s1.sl[i]? with
  | some key, some (.own (.k kd)) => ∃ y, valD kd key = some y ∧ R y s1
  | _, _ => False
theorem e_dgetO (i : Nat) {x y : Expr} {pos} {φ : DE} (hv : ∀ j, PE (F.X j) x (tVar i)) (h2 : ED M F y φ) (hs : NoSl y := by intro _ _; rfl) : ED M F (.Subscript x y pos) (dDGet i φ) := by
  obtain ⟨u, p2, b⟩ := h2
  refine ⟨_, fun j => pe_dget (by have := (F.hr j).un; omega) (hv j) (p2 j) hs, fun s σ G H R Q rel h q => ?_⟩
  obtain ⟨h0, h⟩ := h
  obtain ⟨ds0, hi0⟩ := isK_at h0
  obtain ⟨a, vs0, x1, x2, x3, _⟩ := rel.getK hi0
  refine ⟨_, x1, ?_⟩
  refine b s σ G H _ _ rel h fun d s1 v G1 H1 h1 r1 g1 hv => ?_
  split at h1
  · rename_i key kd hk hi
    obtain ⟨y, hy, hR⟩ := h1
    obtain ⟨a', kvs, y1, y2, y3, _⟩ := r1.getK hi
    rw [x1] at y1
    cases y1
    rcases y3.val (key := key) with ⟨z, _⟩ | ⟨d', v', z1, z2, z3⟩
    · rw [hy] at z; cases z
    · rw [hy] at z1
      cases z1
      refine ⟨a, v', rfl, .inl ⟨kvs, key, .inl y2, key_v hv hk, z2.symm⟩, q _ _ _ _ _ hR r1 g1 z3⟩
  · exact h1.elim
@[simp] def tDInO (n : Bool) (i : Nat) (φ : DE) : DT := fun s R => φ s fun d s1 => match keyD d, s1.sl[i]? with
  | some key, some (.own (.k kd)) => R (n != (valD kd key).isSome) s1
  | _, _ => False
theorem t_dinO (i : Nat) {x y : Expr} {pos} {φ : DE} (hv : ∀ j, PE (F.X j) x (tVar i)) (h2 : ED M F y φ) (hm : behindInMarks .In x = false := by rfl) : ET M F (.Compare y [.In] [x] pos) (tDInO false i φ) := by
  obtain ⟨u, p2, b⟩ := h2
  refine ⟨_, fun j => pt_cmp (pc_din (by have := (F.hr j).un; omega) (p2 j) (hv j)) hm, fun s σ G H R Q rel h q => ?_⟩
  refine b s σ G H _ _ rel h fun d s1 v G1 H1 h1 r1 g1 hv => ?_
  split at h1
  · rename_i key kd hk hi
    obtain ⟨a', kvs, y1, y2, y3, _⟩ := r1.getK hi
    refine ⟨_, y1, a', valV kvs key, rfl, .inl ⟨kvs, key, .inl y2, key_v hv hk, rfl⟩, _, rfl, ?_⟩
    have e : (valV kvs key).isSome = (valD kd key).isSome := by
      rcases y3.val (key := key) with ⟨z, z'⟩ | ⟨d', v', z1, z2, z3⟩
      · rw [z, z']; rfl
      · rw [z1, z2]; rfl
    rw [e]
    exact q _ _ _ _ (by simpa using h1) r1 g1
  · exact h1.elim
theorem t_dnotinO (i : Nat) {x y : Expr} {pos} {φ : DE} (hv : ∀ j, PE (F.X j) x (tVar i)) (h2 : ED M F y φ) (hm : behindInMarks .NotIn x = false := by rfl) : ET M F (.Compare y [.NotIn] [x] pos) (tDInO true i φ) := by
  obtain ⟨u, p2, b⟩ := h2
  refine ⟨_, fun j => pt_cmp (pc_dnotin (by have := (F.hr j).un; omega) (p2 j) (hv j)) hm, fun s σ G H R Q rel h q => ?_⟩
  refine b s σ G H _ _ rel h fun d s1 v G1 H1 h1 r1 g1 hv => ?_
  split at h1
  · rename_i key kd hk hi
    obtain ⟨a', kvs, y1, y2, y3, _⟩ := r1.getK hi
    refine ⟨_, y1, a', valV kvs key, rfl, .inl ⟨kvs, key, .inl y2, key_v hv hk, rfl⟩, _, rfl, ?_⟩
    have e : (valV kvs key).isSome = (valD kd key).isSome := by
      rcases y3.val (key := key) with ⟨z, z'⟩ | ⟨d', v', z1, z2, z3⟩
      · rw [z, z']; rfl
      · rw [z1, z2]; rfl
    rw [e]
    exact q _ _ _ _ (by simpa using h1) r1 g1
  · exact h1.elim
@[simp] def dDPut (i : Nat) (φi φv : DE) : DS := fun s E => φv s fun d s1 => isK s1 i ∧ φi s1 fun n s2 => match keyD n, s2.sl[i]? with
  | some key, some (.own (.k kd)) => kd.length < 10000 ∧ E.nx (s2.set i (.own (.k (putD kd key d))))
  | _, _ => False
theorem s_dputO (i : Nat) {x y e : Expr} {tpos pos : Pos} {φi φv : DE} (hv : ∀ j, PE (F.X j) x (tVar i)) (hi : ED M F y φi) (he : ED M F e φv) (hs : ∀ j, swapsWith e (some (.Subscript x y tpos)) pos.line (F.X j).env = pure false := by intro _; rfl) : SD M F (.Assign [.Subscript x y tpos] e pos) (dDPut i φi φv) := by
  obtain ⟨t, p, a⟩ := he
  obtain ⟨u, p2, b⟩ := hi
  refine ⟨_, fun j => ps_dput (by have := (F.hr j).un; omega) (hv j) (p2 j) (p j) (hs j), fun s σ G H E Dn rel h en => ?_⟩
  refine a s σ G H _ _ rel h fun d s1 v G1 H1 h1 r1 g1 hv => ?_
  obtain ⟨h0, h1⟩ := h1
  obtain ⟨ds0, hi0⟩ := isK_at h0
  obtain ⟨ad, vs0, x1, x2, x3, _⟩ := r1.getK hi0
  refine ⟨_, x1, ?_⟩
  refine b s1 σ G1 H1 _ _ r1 h1 fun n s2 iv G2 H2 h2 r2 g2 hiv => ?_
  split at h2
  · rename_i key kd hk hi
    obtain ⟨h3, h2⟩ := h2
    obtain ⟨a', kvs, y1, y2, y3, _⟩ := r2.getK hi
    rw [x1] at y1
    cases y1
    exact ⟨ad, _, rfl, .inl ⟨kvs, key, y2, key_v hiv hk, by rw [y3.len, sizeLine_eq]; omega, rfl⟩, en.nx _ _ G2 _ h2 (r2.put hi x1 (es := .k (putD kd key d)) ⟨_, rfl, y3.put (Vd.mono g2.ex hv)⟩) (g1.ex.tr g2.ex)⟩
  · exact h2.elim
/-- {i: e}, a new dict -/
@[simp] def pK1 (i : Int) (φ : DE) : DP := fun s R => φ s fun d s1 => R (.own (.k [(.inl i, d)])) s1
theorem p_dict1 {i : Int} {e : Expr} {j0 : Nat} {kp pos : Pos} {φ : DE} (h : ED M F e φ) : EP M F (.Dict [some (.Constant (.int i) j0 kp)] [e] pos) (pK1 i φ) := by
  obtain ⟨t, p, a⟩ := h
  refine ⟨_, fun j => pe_disp (pps_cons pe_int (p j) pps_nil) rfl rfl (by simp) (by simp), fun s σ G H R Q rel h q => ?_⟩
  intro pp hp
  refine a s σ G _ _ _ (rel.lay hp) h fun d s1 v G1 H1 h1 r1 g1 hv => ?_
  obtain ⟨f1, f2, f3, f4⟩ := rel.fresh hp
  have old := g1.old pp (by rw [upd_at]; exact fun z => nomatch z) ⟨f3.fr, fun l es hl => f4 l es hl⟩
  have atp : H1 pp = some (.dK []) := old.1.trans upd_at
  have gp : G1 pp = none := old.2.trans f1
  refine ⟨atp, [(.inl i, v)], rfl, by simp, ?_⟩
  have e : mergeK [] [((.inl i : Key), v)] = [(.inl i, v)] := by simp [mergeK, putK]
  rw [e]
  have f4' : ∀ (l : Nat) (es : OD), s1.sl[l]? = some (.own es) → σ[l]? ≠ some (some (.ref pp)) := fun l es hl => by
    obtain ⟨es', hl'⟩ := (g1.own l).mp ⟨es, hl⟩
    exact f4 l es' hl'
  have r2 : Rel M s1 σ G1 (upd H1 pp (.dK [(.inl i, v)])) := by
    refine ⟨ex_put r1.ex gp, fun b hb hn => ?_, fun p L e => ?_, ⟨tabs_keep r1.tab.1 (fun b ps e => (upd_ne fun z => by rw [z, atp] at e; cases e).trans e) (Ex.rf _), r1.tab.2⟩, r1.len, fun l x ov e1 e2 => ?_, r1.inj⟩
    · have ne : b ≠ pp := fun z => hb (by rw [z]; exact f2)
      exact ⟨(upd_ne ne).trans (r1.fr b hb hn).1, (r1.fr b hb hn).2⟩
    · exact ⟨(r1.pen p L e).1.put (f3.1 p L e).1 (f3.1 p L e).2, (r1.pen p L e).2⟩
    · have kk := r1.sl l x ov e1 e2
      cases x with
      | no => exact kk
      | d x => exact kk
      | own es =>
        obtain ⟨c, ws, w1, w2, w3⟩ := kk
        have ne : c ≠ pp := fun z => f4' l es e1 (by rw [e2, w1, z])
        exact ⟨c, ws, w1, (upd_ne ne).trans w2, w3⟩
      | pen => exact kk
  refine q _ _ _ _ _ h1 r2 ⟨g1.ex, fun b hb ho => ?_, g1.own⟩ ⟨pp, _, rfl, upd_at, ⟨_, rfl, .cons hv .nil⟩, gp, f2, f3, f4'⟩ fun _ _ => ⟨pp, rfl, hp⟩
  have nb : b ≠ pp := fun z => hb (by rw [z]; exact hp)
  obtain ⟨o1, o2⟩ := g1.old b (by rw [upd_ne nb]; exact hb) ho
  exact ⟨(upd_ne nb).trans (o1.trans (upd_ne nb)), o2⟩
/-! ### a builtin told of one's own list -/
@[simp] def atom : D → Bool
  | .non => true
  | .bl _ => true
  | .int _ => true
  | .str _ => true
  | _ => false
theorem atom_vd {G G' : Hp} {v : V} {d : D} (h : atom d = true) (hv : Vd G v d) : Vd G' v d := by
  cases hv <;> first | exact .non | exact .bl _ | exact .int _ | exact .str _ | cases h
theorem atom_ref {G : Hp} {p : Addr} {d : D} (h : atom d = true) (hv : Vd G (.ref p) d) : False := by
  cases hv <;> cases h
@[simp] def dCBO (i : Nat) (ρ : List D → (D → Prop) → Prop) : DE := fun s R => match s.sl[i]? with
  | some (.own (.l ds)) => ρ [.lst ds] fun d => atom d = true ∧ R d s
  | _ => False
theorem e_cbO (i : Nat) {id : String} {r : List V → Hp → VK → Prop} {ρ : List D → (D → Prop) → Prop} {x : Str} {p pos : Pos} {e : Expr} (hc : ∀ j, CallR (F.X j) (.builtin id) r) (hr : CSound r ρ) (hm : mg x = none) (hv : bootBuiltins x = some (.builtin id)) (he0 : ∀ j, PE (F.X j) e (tVar i)) (hg : ∀ j, Gl (F.X j) x)
    (hn : x ≠ "__name__" := by decide) (hdb : (x == ("__debug__" : Str)) = false := by decide) (he : ∀ j, starEach [e] (F.X j).env = (false, eval e (F.X j).env) :: starEach [] (F.X j).env := by intro _; rfl) (hpl : ∀ j, (backTo pos (starEach [] (F.X j).env)).any (·.1) = false := by intro _; rfl) :
    ED M F (.Call (.Name x p) [e] [] pos) (dCBO i ρ) := by
  refine ⟨tCB r (tCons (tVar i) tNil), fun j => pe_callB (hc j) (hg j) (by rw [F.hm j]; exact hm) hv (pa_cons (he0 j) pa_nil (he j)) hn hdb (he j) (hpl j), fun s σ G H R Q rel h q => ?_⟩
  unfold dCBO at h
  split at h
  · rename_i ds hi
    obtain ⟨a, vs, x1, x2, x3, x4, _⟩ := rel.getL hi
    refine ⟨_, x1, ?_⟩
    have ga : Ex G (upd G a (.lst vs)) := ex_new x4
    refine hr (upd G a (.lst vs)) H [.ref a] [.lst ds] _ _ (ex_fix' rel.ex x2) (.cons (.lst upd_at (Vds.mono ga x3)) .nil) h (fun d v hd hv => q _ _ _ _ _ hd.2 rel Go.rf (atom_vd hd.1 hv)) fun d u pp o hd hp hz hu => ?_
    exact (atom_ref hd.1 (hz (upd (upd G a (.lst vs)) pp o) (ex_new (by
      rw [upd_ne fun z => by rw [z, x2] at hp; cases hp]
      exact ex_none rel.ex hp)) upd_at)).elim
  · exact h.elim
theorem e_sumO (hm : mg "sum" = none) (i : Nat) {p pos : Pos} {a : Expr} (hv : ∀ j, PE (F.X j) a (tVar i)) (hg : ∀ j, Gl (F.X j) "sum") (he : ∀ j, starEach [a] (F.X j).env = (false, eval a (F.X j).env) :: starEach [] (F.X j).env := by intro _; rfl) (hpl : ∀ j, (backTo pos (starEach [] (F.X j).env)).any (·.1) = false := by intro _; rfl) :
    ED M F (.Call (.Name "sum" p) [a] [] pos) (dCBO i cSum) := e_cbO i (fun j => by have := cr_sum (X := F.X j) (F.hc j); rw [F.hK j] at this; exact this) c_sum hm boot_sum hv hg (by decide) (by decide) he hpl
/-! ### sorted(set(e)) -/
@[simp] def dSortSet (φ : DE) : DE := fun s R => φ s fun d s1 => match d with
  | .lst xs => ∃ ns, intsD xs = some ns ∧ ns.length < 64 ∧ ∀ out : List Int, out.Pairwise (· < ·) → (∀ k, k ∈ out ↔ k ∈ ns) → R (.lst (out.map .int)) s1
  | _ => False
theorem vds_ints {G : Hp} : ∀ ns : List Int, Vds G (ns.map V.int) (ns.map D.int)
  | [] => .nil
  | n :: ns => .cons (.int n) (vds_ints ns)
theorem boot_setD : bootBuiltins "set" = some (.type "set") := by decide +kernel
theorem e_sortSet {p p2 pos pos2 : Pos} {a : Expr} {φ : DE} (hm : mg "sorted" = none) (hm2 : mg "set" = none) (h : ED M F a φ) (hg : ∀ j, Gl (F.X j) "sorted") (hg2 : ∀ j, Gl (F.X j) "set") (he : ∀ j, starEach [a] (F.X j).env = (false, eval a (F.X j).env) :: starEach [] (F.X j).env := by intro _; rfl)
    (he2 : ∀ j, starEach [.Call (.Name "set" p2) [a] [] pos2] (F.X j).env = (false, eval (.Call (.Name "set" p2) [a] [] pos2) (F.X j).env) :: starEach [] (F.X j).env := by intro _; rfl) : ED M F (.Call (.Name "sorted" p) [.Call (.Name "set" p2) [a] [] pos2] [] pos) (dSortSet φ) := by
  obtain ⟨t, q, b⟩ := h
  refine ⟨tCB (rSortedSet w) (tCons (tCB (SetL.rSetL K w) (tCons t tNil)) tNil), fun j => ?_, fun s σ G H R Q rel h qq => ?_⟩
  · have s1 := cr_sortedSet (X := F.X j) (F.hc j)
    have s2 := SetL.cr_setL (X := F.X j) (F.hc j)
    rw [F.hw j] at s1 s2
    rw [F.hK j] at s2
    exact pe_callB s1 (hg j) (by rw [F.hm j]; exact hm) (by decide +kernel) (pa_cons (pe_callTy s2 (hg2 j) (by rw [F.hm j]; exact hm2) boot_setD (pa_cons (q j) pa_nil (he j)) (by decide) (by decide) (he j) rfl) pa_nil (he2 j)) (by decide) (by decide) (he2 j) rfl
  · refine b s σ G H _ _ rel h fun d s1 v G1 H1 h1 r1 g1 hv => ?_
    split at h1
    · rename_i xs
      obtain ⟨ns, hn, h64, hR⟩ := h1
      cases hv with
      | @lst l vs _ hl hvs =>
        refine ⟨l, ns, rfl, .inl (.inl (by rw [← ints_v hvs hn]; exact r1.ex _ _ hl)), by omega, fun p c hp hc => ?_⟩
        refine ⟨p, _, c, rfl, upd_at, by omega, fun out p2 hs hm hlen hp2 => ?_⟩
        have rA : Rel M s1 σ G1 (upd H1 p (SetO w p (fun j => decide (j ∈ ns)) c)) := r1.lay hp
        refine qq _ _ _ _ _ (hR out hs fun k => (hm k).trans decide_eq_true_iff) (rA.new hp2) (g1.tr ((Go.lay hp).tr (.new rA hp2))) (.lst upd_at (vds_ints out))
    · exact h1.elim
end
end DL
namespace DL
open PySem PySem.Spec PyProof.Rows L2
/-! ### repr -/
def Sys (K : PySem.W.Frag) : Prop := ∃ o, K.lookup sysModules = some o
section
variable {X : Cx} {pins : List (Addr × Obj)} {σ : L2.St} {H : Hp} {s : Shared}
theorem not_sys (Sy : Sys X.K) (I : Inv X pins σ H s) {a : Addr} {o : HO} (h : H a = some o) : sysModules ≠ a := fun e => by
  obtain ⟨u, hu⟩ := Sy
  have q := (I.bs _ _ (I.ok.mod.kin _ _ hu)).2
  rw [e, h] at q
  cases q
mutual
/-- data of which a text is made -/
inductive VP (H : Hp) : V → PyData → Prop
  | non : VP H .non .none
  | bl (b : Bool) : VP H (.bl b) (.bool b)
  | int (i : Int) : VP H (.int i) (.int i)
  | str (x : Str) : VP H (.str x) (.str x)
  | lst {a : Addr} {xs : List V} {ds : List PyData} : H a = some (.lst xs) → VPs H xs ds → VP H (.ref a) (.list ds)
  | tup {a : Addr} {xs : List V} {ds : List PyData} : H a = some (.tup xs) → VPs H xs ds → VP H (.ref a) (.tuple ds)
inductive VPs (H : Hp) : List V → List PyData → Prop
  | nil : VPs H [] []
  | cons {v : V} {vs : List V} {d : PyData} {ds : List PyData} : VP H v d → VPs H vs ds → VPs H (v :: vs) (d :: ds)
end
mutual
theorem vp_of {G H : Hp} (e : Ex G H) : ∀ {d : D} {v : V} {x : PyData}, Vd G v d → pyE d = some x → VP H v x
  | .non, _, _, .non, h => by cases h; exact .non
  | .bl b, _, _, .bl _, h => by cases h; exact .bl b
  | .int i, _, _, .int _, h => by cases h; exact .int i
  | .str s, _, _, .str _, h => by cases h; exact .str s
  | .tup ds, _, x, .tup hp hv, h => by
    have h : (pyEs ds).map .tuple = some x := h
    cases q : pyEs ds with
    | none => rw [q] at h; cases h
    | some xs =>
      rw [q] at h
      cases h
      exact .tup (e _ _ hp) (vps_of e hv q)
  | .lst ds, _, x, .lst hp hv, h => by
    have h : (pyEs ds).map .list = some x := h
    cases q : pyEs ds with
    | none => rw [q] at h; cases h
    | some xs =>
      rw [q] at h
      cases h
      exact .lst (e _ _ hp) (vps_of e hv q)
theorem vps_of {G H : Hp} (e : Ex G H) : ∀ {ds : List D} {vs : List V} {xs : List PyData}, Vds G vs ds → pyEs ds = some xs → VPs H vs xs
  | [], _, _, .nil, h => by cases h; exact .nil
  | d :: ds, _, xs, .cons a t, h => by
    unfold pyEs at h
    split at h
    · rename_i x ys h1 h2
      cases h
      exact .cons (vp_of e a h1) (vps_of e t h2)
    · cases h
end
mutual
theorem VP.reads (Sy : Sys X.K) (I : Inv X pins σ H s) : ∀ {d : PyData} {v : V} {u : Value}, VP H v d → RelV v u → ∃ as, Reads s.heap u d as ∧ sysModules ∉ as
  | _, _, _, .non, r => by
    cases r
    exact ⟨_, Reads.none, by simp⟩
  | _, _, _, .bl b, r => by
    cases r
    exact ⟨_, Reads.bool b, by simp⟩
  | _, _, _, .int i, r => by
    obtain ⟨t, rfl⟩ := r
    exact ⟨_, Reads.int i t, by simp⟩
  | _, _, _, .str x, r => by
    obtain ⟨t, rfl⟩ := r
    exact ⟨_, Reads.str x t, by simp⟩
  | _, _, _, .lst (a := a) (xs := xs) h t, r => by
    cases r
    obtain ⟨_, its, n, rv, e⟩ := (show ObjOk X.prog X.w H s.heap a (.lst xs) from I.hok a _ h)
    obtain ⟨as, q, ns⟩ := VPs.reads Sy I t rv
    exact ⟨_, Reads.list e rfl rfl q, by
      rw [List.mem_cons]
      rintro (z | z)
      · exact not_sys Sy I h z
      · exact ns z⟩
  | _, _, _, .tup (a := a) (xs := xs) h t, r => by
    cases r
    obtain ⟨_, its, rv, o, e, c, n, dd⟩ := (show ObjOk X.prog X.w H s.heap a (.tup xs) from I.hok a _ h)
    obtain ⟨as, q, ns⟩ := VPs.reads Sy I t rv
    exact ⟨_, Reads.tuple e c dd q, ns⟩
theorem VPs.reads (Sy : Sys X.K) (I : Inv X pins σ H s) : ∀ {ds : List PyData} {vs : List V} {us : List Value}, VPs H vs ds → Vals vs us → ∃ as, ReadsAll s.heap us ds as ∧ sysModules ∉ as
  | _, _, _, .nil, r => by
    cases r
    exact ⟨_, ReadsAll.nil, by simp⟩
  | _, _, _, .cons h t, r => by
    cases r with
    | cons r1 r2 =>
      obtain ⟨as, q1, n1⟩ := VP.reads Sy I h r1
      obtain ⟨bs, q2, n2⟩ := VPs.reads Sy I t r2
      exact ⟨_, ReadsAll.cons q1 q2, by rw [List.mem_append]; rintro (z | z); exact n1 z; exact n2 z⟩
end
/-- may be shown: sizes -/
structure Fit (d : PyData) : Prop where
  sh : d.showable = true
  dp : d.depth ≤ 50
  sz : d.shown.length ≤ sizeLine
def rReprD : List V → Hp → VK → Prop := fun xs H Q => ∃ v p, xs = [v] ∧ VP H v p ∧ Fit p ∧ Q (.str p.shown) H
theorem call_reprD (Sy : Sys X.K) (hG : X.A.guards = some []) (hu : X.A.units + 64 < cLine) : CallR X (.builtin "repr") rReprD := by
  intro pins s σ H xs us Q I r h
  obtain ⟨v, p, rfl, hv, ft, q⟩ := h
  obtain ⟨u, rfl, ru⟩ := r.one
  obtain ⟨as, rd, ns⟩ := VP.reads Sy I hv ru
  cases hv with
  | non => cases ru; exact PySem.P.repr_of_none ⟨.str _, H, I.tok _, ⟨_, rfl⟩, q⟩
  | bl b => cases ru; exact PySem.P.repr_of_bool ⟨.str _, H, I.tok _, ⟨_, rfl⟩, q⟩
  | int i =>
    obtain ⟨t, rfl⟩ := ru
    exact PySem.P.repr_of_int (of_decide_eq_true (show decide (i.natAbs.log2 < 1920) = true from ft.sh)) ⟨.str _, H, I.tok _, ⟨_, rfl⟩, q⟩
  | str z => obtain ⟨t, rfl⟩ := ru; exact PySem.P.repr_of_str ⟨.str _, H, I.tok _, ⟨_, rfl⟩, q⟩ ft.sz
  | lst h t =>
    cases ru
    exact repr_of_reads' rd ft.sh (fun _ => ns) hG (by have := ft.dp; omega) (fun _ _ e => e) (fun h' u tk k => ⟨.str _, H, I.kept k, ⟨_, rfl⟩, q⟩) ft.sz
  | tup h t =>
    cases ru
    exact repr_of_reads' rd ft.sh (fun _ => ns) hG (by have := ft.dp; omega) (fun _ _ e => e) (fun h' u tk k => ⟨.str _, H, I.kept k, ⟨_, rfl⟩, q⟩) ft.sz
end
section
variable {P : Program} {w : World} {K : PySem.W.Frag} {mg : Str → Option Value} {base : Heap} {k : Nat} {M : Cm} {F : Fam P w K mg base k}
@[simp] def cRepr : List D → (D → Prop) → Prop := fun ds R => match ds with
  | [d] => ∃ p, pyE d = some p ∧ Fit p ∧ R (.str p.shown)
  | _ => False
theorem c_repr : CSound rReprD cRepr := by
  intro G H xs ds R Q e hv h q _
  unfold cRepr at h
  split at h
  · obtain ⟨p, h1, h2, h3⟩ := h
    cases hv with
    | cons a t =>
      cases t
      exact ⟨_, p, rfl, vp_of e a h1, h2, q _ _ h3 (.str _)⟩
  · exact h.elim
theorem e_repr (Sy : Sys K) (hu : 0 < k) {p pos : Pos} {a : Expr} {ψ : DA} (hm : mg "repr" = none) (ha : EA M F [a] ψ) (hg : ∀ j, Gl (F.X j) "repr") (he : ∀ j, starEach [a] (F.X j).env = (false, eval a (F.X j).env) :: starEach [] (F.X j).env := by intro _; rfl) (hpl : ∀ j, (backTo pos (starEach [] (F.X j).env)).any (·.1) = false := by intro _; rfl) :
    ED M F (.Call (.Name "repr" p) [a] [] pos) (dCB cRepr ψ) := e_callB (fun j => call_reprD (by rw [F.hK j]; exact Sy) (F.hG j) (by have := (F.hr j).un; omega)) c_repr hm boot_repr ha hg (by decide) (by decide) he hpl
end
end DL
/-! lambdas of a def's body; the fault of a call -/
namespace DL
open PySem PySem.Spec PyProof.Rows L2 Clo
theorem cf_pair : ∀ (names : List (Str × NameKind)) (n : Nat) (acc : List (Str × Addr)), (∀ p ∈ acc, p.2 < n) → acc.Pairwise (fun x y => x.2 ≠ y.2) → (cellsFrom n names acc).Pairwise fun x y => x.2 ≠ y.2
  | [], n, acc, _, h => h
  | (m, k) :: r, n, acc, hb, h => by
    rw [cellsFrom]
    split
    · refine cf_pair r (n + 1) _ (fun p hp => ?_) (List.pairwise_cons.mpr ⟨fun p hp => ?_, h⟩)
      · rcases List.mem_cons.mp hp with e | e
        · rw [e]; exact Nat.lt_succ_self n
        · exact Nat.lt_succ_of_lt (hb p e)
      · exact Nat.ne_of_gt (hb p hp)
    · exact cf_pair r n acc hb h
/-- the captured names are cells of the maker -/
def capB (fsc sc : Scope) : Bool := sc.names.all fun y => !decide (y.2 = .free) || decide (fsc.names.lookup y.1 = some .cell)
theorem capB_at {fsc sc : Scope} (h : capB fsc sc = true) : ∀ y ∈ sc.names, y.2 = .free → fsc.names.lookup y.1 = some .cell := fun y hy e => by
  have := List.all_eq_true.mp h y hy
  simpa [e] using this
theorem cap_has {fsc sc : Scope} {n : Nat} (h : capB fsc sc = true) : ∀ y ∈ sc.names, y.2 = .free → ∃ c, (cellsFrom n fsc.names []).lookup y.1 = some c := fun y hy e => cell_has (capB_at h y hy e)
theorem closS_body {q : Str} {params : Arguments} {body : Expr} {sc fsc : Scope} {n : Nat} (hs : cloSB ⟨q, params, body, sc, L2.cloFrom (cellsFrom n fsc.names []) sc.names []⟩ = true) (hc : capB fsc sc = true) : CloS ⟨q, params, body, sc, L2.cloFrom (cellsFrom n fsc.names []) sc.names []⟩ := by
  have h := hs
  unfold cloSB at h
  simp only [Bool.and_eq_true, Bool.or_eq_true, Bool.not_eq_true', decide_eq_true_eq, decide_eq_false_iff_not, List.all_eq_true] at h
  obtain ⟨⟨⟨h1, h2⟩, h3⟩, h4⟩ := h
  have hfree := cap_has (n := n) hc
  refine ⟨h1, h2, h3, fun y hy => (h4 y hy).1, fun y hl => mem_lookup (cloFrom_has (cells := cellsFrom n fsc.names []) (acc := []) (PySem.mem_of_lookup hl)), fun y z c e1 e2 => ?_⟩
  have p := cf_pair fsc.names n [] (fun p hp => by cases hp) List.Pairwise.nil
  rcases cl_free (PySem.mem_of_lookup e1) hfree with z1 | ⟨_, z1⟩
  · cases z1
  · rcases cl_free (PySem.mem_of_lookup e2) hfree with z2 | ⟨_, z2⟩
    · cases z2
    · exact name_of_addr p (PySem.mem_of_lookup z1) (PySem.mem_of_lookup z2)
/-! ### a def of which the code object is known -/
section
variable {P : Program} {w : World} {K : PySem.W.Frag} {mg : Str → Option Value} {base : Heap} {k : Nat}
theorem fnG_ofC {CX : CXT} {f : Addr} {fd : FuncData} {ps N : List Str} {sp : Sp} {x qual : Str} {params : Arguments} {body : List Stmt} {scope : Scope} {dvs : List V} {kws : List (Str × V)} (F : FunD K x qual params body scope dvs kws f fd) (S : FnScope N ps scope) (len : ∀ vs H Q E, sp vs H Q E → vs.length = ps.length)
    (hbody : ∀ (A : Around) (outer : List Env) (s : Shared) (H : Hp) (vs : List V) (Q : VK) (E : XK), Room k (A.deeper (envOfC qual scope s.heap.objs.size f fd.code)) → A.guards = some [] → sp vs H Q E →
      ∃ t, PSs (cxOf CX P w K mg base N qual scope f fd.code A outer s H E) body t ∧ t { nx := fun _ H' => Q .non H', rt := Q } (start N vs) H) : Gd.FnG P w K mg base CX (k + 1) f fd ps sp := by
  obtain ⟨oc, od, dV, kV, doc, pm, an, cdv, ct, osl, rfl, lk, hcd, _, _⟩ := F.ex
  exact ⟨len, fun A outer s H args us vs Q E hr hg e0 hb hv hs => LamX.run_ofS lk hcd S hr e0 hb hv (len _ _ _ _ hs) fun hr' => hbody A outer s H vs Q E hr' hg hs⟩
theorem fn_ofC {x qual : Str} {params : Arguments} {body : List Stmt} {scope : Scope} {f : Addr} {fd : FuncData} {N ps : List Str} {hp : Bool} {T : List (Addr × Str)} {Φ : DFn} (Fd : FunD K x qual params body scope [] [] f fd) (Sc : FnScope N ps scope) (hl : ∀ ds c R RX, Φ ds c R RX → ds.length + (if hp then 1 else 0) = ps.length)
    (hb : ∀ (A : Around) (outer : List Env) (s : Shared) (H : Hp) (E : XK) (hr : Room k (A.deeper (envOfC qual scope s.heap.objs.size f fd.code))) (hG : A.guards = some []) (M : Cm) (RX : DX → Int → Prop), M.H0 = H → M.pen.isSome = hp → M.tabs = T → Nice M → XS M E RX →
      ∃ ψ, SDs M (bodyF P w K mg base k N qual scope f fd.code A outer s H E hr hG) body ψ ∧ ∀ ds c R, Φ ds c R RX → ψ ⟨slots0 hp N.length ds, c⟩ { nx := fun s => R .non s.c, rt := fun d s => R d s.c }) :
    Gd.FnG P w K mg base (L2.CX P w) (k + 1) f fd ps (spF hp T Φ) := by
  refine fnG_ofC Fd Sc (fun vs H Q E h => ?_) (fun A outer s H vs Q E hr hG h => ?_)
  · obtain ⟨M, us, ds, c, R, RX, h1, h2, ht, rfl, h4, h5, h6, _⟩ := h
    rw [← hl ds c R RX h6, List.length_append, h5.len]
    cases q : M.pen with
    | none => rw [q] at h2; subst h2; simp [penA]
    | some p => rw [q] at h2; subst h2; simp [penA]; omega
  · obtain ⟨M, us, ds, c, R, RX, h1, h2, ht, rfl, h4, h5, h6, h7, h8⟩ := h
    subst h1
    obtain ⟨ψ, ⟨t, p, a⟩, pure_⟩ := hb A outer s M.H0 E hr hG M RX rfl h2 ht (FrOk.nice (c := c) h4) h8
    refine ⟨t, p (), a _ _ M.G0 M.H0 _ _ (rel0 h4 h2 h5) (pure_ ds c R h6) ⟨fun s σ G H hh r x => ?_, fun d s σ v G H hh r x hv => ?_, fun _ _ _ _ z => z.elim, fun _ _ _ _ z => z.elim⟩⟩
    · exact h7 _ _ _ _ _ hh (r.frOk (FrOk.nice (c := c) h4)) .non
    · exact h7 _ _ _ _ _ hh (r.frOk (FrOk.nice (c := c) h4)) hv
end
/-! ### _law_fault(lambda: ..) -/
@[simp] def slotsAt (sl : List Slot) (is : List Nat) : List (Option D) := is.map fun (i : Nat) => match sl[i]? with
  | some (.d x) => some x
  | _ => none
@[simp] def dFaultLam (is : List Nat) (Ψ : DFn) (l : List (Str × Addr × List Str)) : DE := fun s R => ∃ env, slotsAt s.sl is = env.map some ∧ flats env = true ∧ Ψ env 0 (fun _ _ => flat .non = true ∧ R .non s) fun x _ => ∃ tag, (tag, x.C, x.ns) ∈ l ∧ flat (.tup (.str tag :: x.ds)) = true ∧ R (.tup (.str tag :: x.ds)) s
section
variable {P : Program} {w : World} {K : PySem.W.Frag} {mg : Str → Option Value} {base : Heap} {k : Nat} {M : Cm} {F : Fam P w K mg base k}
theorem e_faultLam {kk : Nat} {f : Addr} {fd : FuncData} {l : List (Str × Addr × List Str)} {x : Str} {p pos lpos : Pos} {c Pt : Addr} {params : Arguments} {body : Expr} {scope : Scope} {q : Str} {cells : List (Str × Addr)} {N : List Str} {Ψ : DFn} (is : List Nat)
    (Fn : Gd.FnG P w K mg base (L2.CX P w) (kk + 1) f fd ["work"] (spF false [] (Φ_fault P w K mg base kk l))) (hk : kk + 1 ≤ k) (hm : mg x = some (.ref f)) (kp : PySem.W.keepIn K (.ref f) = true) (hb : Binds K fd ["work"] [])
    (hC : CloD P w K mg base kk ⟨q, params, body, scope, L2.cloFrom cells scope.names []⟩ Ψ) (ni : Nice M) (hE : XS M F.E fun _ _ => False) (TB : LamX.TabB base mg c Pt) (hmT : (Pt, q) ∈ M.tabs) (hu : ∀ p ∈ M.tabs, p.1 = Pt → p.2 = q) (hcode : ∀ j, (F.X j).env.code = .ref c) (hq : ∀ j, (F.X j).env.qual ++ "<lambda>" = q)
    (hcl : ∀ j, (F.X j).env.cells = cells) (hNj : ∀ j, (F.X j).N = N) (hnd : N.Nodup) (hns : ∀ j, ∀ y ∈ frees ⟨q, params, body, scope, L2.cloFrom cells scope.names []⟩, (F.X j).env.kindOf y = some .cell) (hfn : ∀ j, (F.X j).fn = fun _ => true) (hfree : ∀ y ∈ scope.names, y.2 = .free → ∃ c, cells.lookup y.1 = some c)
    (his : (frees ⟨q, params, body, scope, L2.cloFrom cells scope.names []⟩).map (fun y => N.idxOf y) = is) (hin : (frees ⟨q, params, body, scope, L2.cloFrom cells scope.names []⟩).all (fun y => decide (y ∈ N)) = true) (hg : ∀ j, Gl (F.X j) x) (hdb : (x == ("__debug__" : Str)) = false := by decide)
    (he : ∀ j, starEach [.Lambda params body scope lpos] (F.X j).env = (false, eval (.Lambda params body scope lpos) (F.X j).env) :: starEach [] (F.X j).env := by intro _; rfl) (hpl : ∀ j, (backTo pos (starEach [] (F.X j).env)).any (·.1) = false := by intro _; rfl) (hdef : ∀ j, defaultsOf params (F.X j).env = ([], []) := by intro _; rfl) :
    ED M F (.Call (.Name x p) [.Lambda params body scope lpos] [] pos) (dFaultLam is Ψ l) := by
  have has : ∀ y ∈ frees ⟨q, params, body, scope, L2.cloFrom cells scope.names []⟩, ∃ c, cells.lookup y = some c := fun y hy => by
    obtain ⟨pr, hp, e⟩ := List.mem_filterMap.mp hy
    split at e
    · rename_i hf
      cases e
      exact hfree pr hp hf
    · cases e
  obtain ⟨t, pe, a⟩ := e_callS (x := x) (p := p) (pos := pos) (RX := fun _ _ => False) Fn hk hm kp hb hE ni hcl hNj hnd hns hfn has (a_cons (e_lam (pos := lpos) TB hmT hu hcode hq hcl hfree hdef) a_nil he) hg hdb he hpl
  refine ⟨t, pe, fun s σ G H R Q rel h qq => a s σ G H R Q rel ?_ qq⟩
  obtain ⟨env, h1, h2, h3⟩ := h
  refine ⟨[.sc ⟨q, params, body, scope, L2.cloFrom cells scope.names []⟩ env], .cons (.clo (List.all_eq_true.mpr fun y hy => ?_) ?_ h2) .nil, _, env, Ψ, rfl, h2, hC, h3⟩
  · rw [Bool.and_eq_true, decide_eq_true_eq]
    exact ⟨hy, List.all_eq_true.mp hin y hy⟩
  · rw [← h1, ← his]
    simp only [slotsAt, List.map_map]
    rfl
end
/-! int(x) -/
@[simp] def cInt : List D → (D → Prop) → Prop := fun ds R => match ds with
  | [.int i] => R (.int i)
  | [.bl b] => R (.int (if b then 1 else 0))
  | _ => False
section
variable {P : Program} {w : World} {K : PySem.W.Frag} {mg : Str → Option Value} {base : Heap} {k : Nat} {M : Cm} {F : Fam P w K mg base k}
theorem c_int : CSound (fun xs H Q => (∃ i, xs = [.int i] ∧ Q (.int i) H) ∨ ∃ k, xs = [.bl k] ∧ Q (.int (if k then 1 else 0)) H) cInt := by
  intro G H xs ds R Q e hv h q _
  unfold cInt at h
  split at h
  · cases hv with
    | cons a t =>
      cases t
      cases a
      exact .inl ⟨_, rfl, q _ _ h (.int _)⟩
  · cases hv with
    | cons a t =>
      cases t
      cases a
      exact .inr ⟨_, rfl, q _ _ h (.int _)⟩
  · exact h.elim
theorem e_intc {p pos : Pos} {a : Expr} {ψ : DA} (hm : mg "int" = none) (ha : EA M F [a] ψ) (hg : ∀ j, Gl (F.X j) "int") (he : ∀ j, starEach [a] (F.X j).env = (false, eval a (F.X j).env) :: starEach [] (F.X j).env := by intro _; rfl) (hpl : ∀ j, (backTo pos (starEach [] (F.X j).env)).any (·.1) = false := by intro _; rfl) :
    ED M F (.Call (.Name "int" p) [a] [] pos) (dCB cInt ψ) := e_callTy (fun _ => call_int1) c_int hm boot_intD ha hg (by decide) (by decide) he hpl
end
end DL
/-! what each law's texts share -/
namespace DL
open PySem PySem.Spec PyProof.Rows L2
@[simp] def tCm (ρ : DO) (φ ψ : DE) : DT := fun s R => dOp ρ φ ψ s fun d s' => ∃ b, d = .bl b ∧ R b s'
@[simp] def dRetN : DS := fun s E => E.rt .non s
/-- what a law's texts are told of: the classes' addresses, what is promised of closures -/
structure Gm where
  a : Str → Addr
  clo : Clo.CloD → DFn → Prop
theorem spF_imp {hp : Bool} {T : List (Addr × Str)} {Φ Φ' : DFn} (h : ∀ ds c R RX, Φ' ds c R RX → Φ ds c R RX) {vs : List V} {H : Hp} {Q : VK} {E : XK} (x : spF hp T Φ' vs H Q E) : spF hp T Φ vs H Q E := by
  obtain ⟨M, us, ds, c, R, RX, h1, h2, h3, h4, h5, h6, h7, h8⟩ := x
  exact ⟨M, us, ds, c, R, RX, h1, h2, h3, h4, h5, h6, h _ _ _ _ h7, h8⟩
section
variable {P : Program} {w : World} {K : PySem.W.Frag} {mg : Str → Option Value} {base : Heap} {k : Nat} {M : Cm} {F : Fam P w K mg base k}
theorem s_setR {i : Nat} {st : Stmt} {e : Expr} {φ : DE} (hs : ∀ t : TE, (∀ j, PE (F.X j) e t) → ∀ j, PS (F.X j) st (tAsg t (gName i))) (he : ED M F e φ) : SD M F st (dSet i φ) := s_set he hs
theorem s_ownR {i : Nat} {st : Stmt} {e : Expr} {φ : DA} (hs : ∀ t : TE, (∀ j, PE (F.X j) e t) → ∀ j, PS (F.X j) st (tAsg t (gName i))) (he : EL M F e φ) : SD M F st (dOwn i φ) := s_own he hs
theorem s_parR {i j : Nat} {a b : Expr} {φ ψ : DP} {st : Stmt} (hij : i ≠ j) (hst : ∀ t u : TE, (∀ q, PE (F.X q) a t) → (∀ q, PE (F.X q) b u) → ∀ q, PS (F.X q) st (tPar i j (tCons t (tCons u tNil)))) (h1 : EP M F a φ) (h2 : EP M F b ψ) : SD M F st (dPar i j φ ψ) := s_par h1 h2 hij hst
end
section
variable {P : Program} {w : World} {K : PySem.W.Frag} {mg : Str → Option Value} {base : Heap} {k : Nat} {M : Cm} {F : Fam P w K mg base k}
/-- name = [.. for .. in ..], where the name's store is swapped with the comprehension's own -/
theorem s_setLc (i : Nat) {y : Str} {py : Pos} {own : List (Str × Nat)} {tg iter elt : Expr} {ifs : List Expr} {scope : Scope} {pos spos : Pos} {φ : DA} {γ : D → S → (S → Prop) → Prop} {τ : DT} {ε : DE} (hy : ∀ j, (F.X j).N[i]? = some y) (hyl : ∀ j, (F.X j).env.scope.names.lookup y = some .local)
    (hsw : ∀ j, swapsWith (.ListComp elt [⟨tg, iter, ifs, 0⟩] scope pos) (some (.Name y py)) spos.line (F.X j).env = pure true) (ok : ∀ j, BlkOk (F.X j).N (F.X j).env.scope scope own) (hN : ∀ j, (F.X j).N.Nodup)
    (hi : ID M F tg iter φ) (hg : GD M (F.blk scope) (own.map (·.2)) tg γ) (ht : ETs M (F.blk scope) ifs τ) (he : ED M (F.blk scope) elt ε) (hs : ∀ j x, foldedSetIterable iter (F.X j).env x = pure x := by intro _ _; rfl) :
    SD M F (.Assign [.Name y py] (.ListComp elt [⟨tg, iter, ifs, 0⟩] scope pos) spos) (dSet i (dFz (dLc (own.map (·.2)) φ γ τ ε))) := by
  obtain ⟨wi, p1, a⟩ := hi
  obtain ⟨g, p2, b⟩ := hg
  obtain ⟨tt, p3, c⟩ := ht
  obtain ⟨te, p4, d⟩ := he
  have ls := lc_sound a b c d
  refine ⟨_, fun j => ps_setLc (F.hc j) (hN j) (hy j) (hyl j) (hsw j) (p1 j) (ok j) (fun s H C cl fp => p2 (j, s, H, C, cl, fp)) (fun s H C cl fp => p3 (j, s, H, C, cl, fp)) (fun s H C cl fp => p4 (j, s, H, C, cl, fp)) (hs j), fun s σ G H E Dn rel h e => ?_⟩
  refine ls s σ G H _ _ rel h fun ds s1 x vs G1 H1 h1 r1 e1 hvs hn hx f1 f2 f3 f4 => ?_
  have eg := ex_new (o := .lst vs) f1
  exact e.nx _ _ _ _ h1 ((r1.fix hx f1 f2 f3 f4).setD (.lst upd_at (Vds.mono eg hvs))) (e1.ex.tr eg)
/-- .. the list one's own -/
theorem s_ownLc (i : Nat) {y : Str} {py : Pos} {own : List (Str × Nat)} {tg iter elt : Expr} {ifs : List Expr} {scope : Scope} {pos spos : Pos} {φ : DA} {γ : D → S → (S → Prop) → Prop} {τ : DT} {ε : DE} (hy : ∀ j, (F.X j).N[i]? = some y) (hyl : ∀ j, (F.X j).env.scope.names.lookup y = some .local)
    (hsw : ∀ j, swapsWith (.ListComp elt [⟨tg, iter, ifs, 0⟩] scope pos) (some (.Name y py)) spos.line (F.X j).env = pure true) (ok : ∀ j, BlkOk (F.X j).N (F.X j).env.scope scope own) (hN : ∀ j, (F.X j).N.Nodup)
    (hi : ID M F tg iter φ) (hg : GD M (F.blk scope) (own.map (·.2)) tg γ) (ht : ETs M (F.blk scope) ifs τ) (he : ED M (F.blk scope) elt ε) (hs : ∀ j x, foldedSetIterable iter (F.X j).env x = pure x := by intro _ _; rfl) :
    SD M F (.Assign [.Name y py] (.ListComp elt [⟨tg, iter, ifs, 0⟩] scope pos) spos) (dOwn i (dLc (own.map (·.2)) φ γ τ ε)) := by
  obtain ⟨wi, p1, a⟩ := hi
  obtain ⟨g, p2, b⟩ := hg
  obtain ⟨tt, p3, c⟩ := ht
  obtain ⟨te, p4, d⟩ := he
  have ls := lc_sound a b c d
  refine ⟨_, fun j => ps_setLc (F.hc j) (hN j) (hy j) (hyl j) (hsw j) (p1 j) (ok j) (fun s H C cl fp => p2 (j, s, H, C, cl, fp)) (fun s H C cl fp => p3 (j, s, H, C, cl, fp)) (fun s H C cl fp => p4 (j, s, H, C, cl, fp)) (hs j), fun s σ G H E Dn rel h e => ?_⟩
  refine ls s σ G H _ _ rel h fun ds s1 x vs G1 H1 h1 r1 e1 hvs hn hx f1 f2 f3 f4 => ?_
  refine e.nx _ _ G1 _ h1 (r1.set ⟨x, _, rfl, hx, ⟨vs, rfl, hvs⟩, f1, f2, f3⟩ fun es b j fs e1 e2 nj hj => ?_) e1.ex
  cases e2
  exact f4 j fs hj
end
mutual
/-- lists as tuples, all the way down -/
def tups : D → D
  | .lst ds => .tup (tupsL ds)
  | .tup ds => .tup (tupsL ds)
  | d => d
def tupsL : List D → List D
  | [] => []
  | d :: ds => tups d :: tupsL ds
end
mutual
/-- plain data of a depth under n, rows not too long -/
def dep : Nat → D → Bool
  | 0, _ => false
  | n + 1, .lst ds => decide (ds.length ≤ 1000) && depL n ds
  | n + 1, .tup ds => decide (ds.length ≤ 1000) && depL n ds
  | n + 1, d => (tyN d).isSome
def depL : Nat → List D → Bool
  | _, [] => true
  | n, d :: ds => dep n d && depL n ds
end
def Φt (n : Nat) : DFn := fun ds c R _ => ∃ d, ds = [d] ∧ dep n d = true ∧ R (tups d) c
/-- a number under m, one draw more -/
def Φ_draw : DFn := fun ds c R _ => ∃ m, ds = [.int m] ∧ 0 < m ∧ m < 1073741824 ∧ 0 ≤ c ∧ c < 1000000000000 ∧ ∀ r, 0 ≤ r → r < m → R (.int r) (c + 1)
theorem lc_tups {n : Nat} {R : List D → S → Prop} {d0 : D} {c : Int} : ∀ (ds acc : List D), acc.length + ds.length ≤ 2000 → depL n ds = true → R (acc ++ tupsL ds) ⟨[.d d0, .no], c⟩ →
    lcL [1] (fun d s R => R (s.set 1 (.d d))) dYes (dCall (Φt n) (fun _ _ => False) (aCons (dVar 1) aNil)) R [.d d0, .no] acc ds c
  | [], acc, _, _, h => by simpa [tupsL] using h
  | d :: ds, acc, hl, hd, h => by
    have hd' : dep n d = true ∧ depL n ds = true := by
      unfold depL at hd
      rw [Bool.and_eq_true] at hd
      exact hd
    have hl' : acc.length + (ds.length + 1) ≤ 2000 := hl
    unfold lcL
    refine ⟨rfl, rfl, rfl, ?_⟩
    rw [if_pos rfl]
    refine ⟨d, rfl, hd'.1, rfl, by omega, ?_⟩
    refine lc_tups ds (acc ++ [tups d]) (by simp; omega) hd'.2 ?_
    have e : (acc ++ [tups d]) ++ tupsL ds = acc ++ tupsL (d :: ds) := by simp [tupsL]
    rw [e]
    exact h
end DL
/-! loops and comprehensions of transformers, by what holds at each turn -/
namespace DL
open PySem PySem.Spec PyProof.Rows L2
theorem for_ind {γ : D → S → (S → Prop) → Prop} {ψ : DS} {E : DEn} (I : List D → S → Prop) (hnil : ∀ s, I [] s → E.nx s) (hcons : ∀ x xs s (K : S → Prop), I (x :: xs) s → (∀ s2, I xs s2 → K s2) → γ x s fun s1 => ψ s1 { nx := K, rt := E.rt, bk := E.nx, ct := K }) : ∀ xs s, I xs s → dForL γ ψ E xs s
  | [], s, h => hnil s h
  | x :: xs, s, h => hcons x xs s (dForL γ ψ E xs) h (for_ind I hnil hcons xs)
theorem for_nat {γ : D → S → (S → Prop) → Prop} {ψ : DS} {E : DEn} (I : Nat → S → Prop) {m : Nat} {g : Nat → D} {s : S} (h0 : I 0 s) (hnil : ∀ s, I m s → E.nx s) (hcons : ∀ k s (K : S → Prop), k < m → I k s → (∀ s2, I (k + 1) s2 → K s2) → γ (g k) s fun s1 => ψ s1 { nx := K, rt := E.rt, bk := E.nx, ct := K }) : dForL γ ψ E ((List.range m).map g) s := by
  refine for_ind (fun l s => ∃ k, k ≤ m ∧ l = ((List.range m).drop k).map g ∧ I k s) ?_ ?_ _ _ ⟨0, Nat.zero_le _, by simp, h0⟩
  · rintro s ⟨k, hk, e, h⟩
    have hk : k = m := by
      have := congrArg List.length e
      simp at this
      omega
    exact hnil s (hk ▸ h)
  · rintro x xs s K ⟨k, hk, e, h⟩ hK
    have hk : k < m := by
      by_cases q : k < m
      · exact q
      · have := congrArg List.length e
        simp at this
        omega
    rw [List.drop_eq_getElem_cons (by simpa using hk), List.map_cons] at e
    cases e
    rw [List.getElem_range]
    exact hcons k s K hk h fun s2 h2 => hK s2 ⟨k + 1, hk, rfl, h2⟩
/-- for i in range(m) -/
theorem for_rg {γ : D → S → (S → Prop) → Prop} {ψ : DS} {E : DEn} (I : Nat → S → Prop) {m : Nat} {s : S} (h0 : I 0 s) (hnil : ∀ s, I m s → E.nx s) (hcons : ∀ k s (K : S → Prop), k < m → I k s → (∀ s2, I (k + 1) s2 → K s2) → γ (.int k) s fun s1 => ψ s1 { nx := K, rt := E.rt, bk := E.nx, ct := K }) : dForL γ ψ E ((List.range m).map fun i : Nat => D.int i) s :=
  for_nat I h0 hnil hcons
theorem map_nth {α : Type} (f : α → D) (d : α) (l : List α) : l.map f = (List.range l.length).map fun i => f (l.getD i d) := by
  apply List.ext_getElem
  · simp
  · intro i h1 h2
    simp at h1
    simp [h1]
theorem enL_nth {α : Type} (f : α → D) (d : α) : ∀ (l : List α) (n : Nat), enL n (l.map f) = (List.range l.length).map fun i => .tup [.int ((n + i : Nat) : Int), f (l.getD i d)]
  | [], n => rfl
  | x :: l, n => by
    have ih := enL_nth f d l (n + 1)
    rw [List.map_cons, List.length_cons, List.range_succ_eq_map, List.map_cons, List.map_map]
    show _ :: enL (n + 1) (l.map f) = _
    rw [ih]
    simp
    intro a _
    omega
/-- for i, x in enumerate(l) -/
theorem for_en {α : Type} {f : α → D} {l : List α} {γ : D → S → (S → Prop) → Prop} {ψ : DS} {E : DEn} (I : Nat → S → Prop) {s : S} (h0 : I 0 s) (hnil : ∀ s, I l.length s → E.nx s) (hcons : ∀ k x s (K : S → Prop), l[k]? = some x → I k s → (∀ s2, I (k + 1) s2 → K s2) → γ (.tup [.int k, f x]) s fun s1 => ψ s1 { nx := K, rt := E.rt, bk := E.nx, ct := K }) : dForL γ ψ E (enL 0 (l.map f)) s := by
  cases l with
  | nil => exact hnil s h0
  | cons d l =>
    rw [enL_nth f d]
    refine for_nat I h0 hnil fun k s K hk h hK => ?_
    rw [Nat.zero_add]
    exact hcons k _ s K (by rw [List.getD_eq_getElem?_getD, List.getElem?_eq_getElem hk]; rfl) h hK
/-- for x in l -/
theorem for_ls {α : Type} {f : α → D} {l : List α} {γ : D → S → (S → Prop) → Prop} {ψ : DS} {E : DEn} (I : Nat → S → Prop) {s : S} (h0 : I 0 s) (hnil : ∀ s, I l.length s → E.nx s) (hcons : ∀ k x s (K : S → Prop), l[k]? = some x → I k s → (∀ s2, I (k + 1) s2 → K s2) → γ (f x) s fun s1 => ψ s1 { nx := K, rt := E.rt, bk := E.nx, ct := K }) : dForL γ ψ E (l.map f) s := by
  cases l with
  | nil => exact hnil s h0
  | cons d l =>
    rw [map_nth f d]
    refine for_nat I h0 hnil fun k s K hk h hK => ?_
    exact hcons k _ s K (by rw [List.getD_eq_getElem?_getD, List.getElem?_eq_getElem hk]; rfl) h hK
theorem lc_ind {vs : List Nat} {γ : D → S → (S → Prop) → Prop} {τ : DT} {ε : DE} {R : List D → S → Prop} {sl : List Slot} (I : List D → List D → Int → Prop) (hnil : ∀ acc c, I acc [] c → R acc ⟨sl, c⟩)
    (hcons : ∀ acc x xs c (K : List D → Int → Prop), I acc (x :: xs) c → (∀ acc' c', I acc' xs c' → K acc' c') → γ x ⟨swipe sl vs, c⟩ fun s2 => safeL s2.sl vs = true ∧ swipe s2.sl vs = swipe sl vs ∧ τ s2 fun b s3 => s3.sl = s2.sl ∧
      if b = true then ε s3 fun y s4 => s4.sl = s2.sl ∧ acc.length < 10000 ∧ K (acc ++ [y]) s4.c else K acc s3.c) : ∀ xs acc c, I acc xs c → lcL vs γ τ ε R sl acc xs c
  | [], acc, c, h => hnil acc c h
  | x :: xs, acc, c, h => hcons acc x xs c (fun a c => lcL vs γ τ ε R sl a xs c) h (lc_ind I hnil hcons xs)
/-- [e for v in xs], e without a draw -/
theorem lc_map {v : Nat} {ε : DE} {R : List D → S → Prop} {sl : List Slot} (f : D → D) {xs : List D} {c : Int} (hv : v < sl.length) (hl : xs.length ≤ 10000) (hε : ∀ x ∈ xs, ∀ K : D → S → Prop, K (f x) ⟨sl.set v (.d x), c⟩ → ε ⟨sl.set v (.d x), c⟩ K)
    (h : R (xs.map f) ⟨sl, c⟩) : lcL [v] (fun d s R => R (s.set v (.d d))) dYes ε R sl [] xs c := by
  have key : ∀ (ys acc : List D), (∀ x ∈ ys, x ∈ xs) → acc.length + ys.length ≤ 10000 → R (acc ++ ys.map f) ⟨sl, c⟩ → lcL [v] (fun d s R => R (s.set v (.d d))) dYes ε R sl acc ys c := by
    intro ys
    induction ys with
    | nil =>
      intro acc _ _ h
      simpa using h
    | cons y ys ih =>
      intro acc hm hl h
      have hl' : acc.length + (ys.length + 1) ≤ 10000 := hl
      refine ⟨?_, ?_, rfl, ?_⟩
      · simp [hv]
      · simp
      · rw [if_pos rfl]
        have e0 : ((sl.set v .no).set v (.d y)) = sl.set v (.d y) := List.set_set ..
        show ε ⟨(sl.set v .no).set v (.d y), c⟩ _
        rw [e0]
        refine hε y (hm y List.mem_cons_self) _ ⟨e0.symm, by omega, ih (acc ++ [f y]) (fun x hx => hm x (List.mem_cons_of_mem _ hx)) (by simp; omega) ?_⟩
        simpa using h
  exact key xs [] (fun _ h => h) (by simpa using hl) (by simpa using h)
/-- data that may be told of its kind -/
@[simp] def pl (d : D) : Prop := (tyN d).isSome = true
def isI : D → Bool
  | .int _ => true
  | _ => false
def isTup (n : Int) : D → Bool
  | .tup ds => decide ((ds.length : Int) = n)
  | _ => false
theorem isTup_2 {d : D} (h : isTup 2 d = true) : ∃ a b, d = .tup [a, b] := by
  unfold isTup at h
  split at h
  · rename_i ds
    have h : (ds.length : Int) = 2 := of_decide_eq_true h
    match ds, h with
    | [a, b], _ => exact ⟨a, b, rfl⟩
    | [], h => simp at h
    | [_], h => simp at h
    | _ :: _ :: _ :: _, h => simp at h; omega
  · cases h
theorem isI_at {d : D} (h : isI d = true) : ∃ i, d = .int i := by
  unfold isI at h
  split at h
  · exact ⟨_, rfl⟩
  · cases h
theorem tyN_cases {d : D} (h : (tyN d).isSome = true) : d = .non ∨ (∃ b, d = .bl b) ∨ (∃ i, d = .int i) ∨ (∃ x, d = .str x) ∨ (∃ l, d = .tup l) ∨ (∃ l, d = .lst l) ∨ ∃ k l, d = .dct k l := by
  cases d <;> simp at h ⊢
end DL
namespace DL
open PySem PySem.Spec PyProof.Rows L2
/-! ### what is small enough to be shown -/
structure Sw (k w : Nat) (d : D) : Prop where
  ex : ∃ p, pyE d = some p ∧ p.showable = true ∧ p.depth ≤ k ∧ p.leavesShort 13 = true ∧ p.weight ≤ w
structure SwL (k w : Nat) (ds : List D) : Prop where
  ex : ∃ ps, pyEs ds = some ps ∧ PyData.showableAll ps = true ∧ PyData.depthAll ps ≤ k ∧ PyData.leavesShortAll 13 ps = true ∧ PyData.weightAll ps ≤ w
theorem Sw.up {k w k' w' : Nat} {d : D} (h : Sw k w d) (hk : k ≤ k') (hw : w ≤ w') : Sw k' w' d := by
  obtain ⟨p, a, b, c, e, f⟩ := h.ex
  exact ⟨p, a, b, by omega, e, by omega⟩
theorem SwL.up {k w k' w' : Nat} {d : List D} (h : SwL k w d) (hk : k ≤ k') (hw : w ≤ w') : SwL k' w' d := by
  obtain ⟨p, a, b, c, e, f⟩ := h.ex
  exact ⟨p, a, b, by omega, e, by omega⟩
theorem sw_non : Sw 0 0 .non := ⟨⟨.none, rfl, rfl, Nat.le_refl _, rfl, Nat.le_refl _⟩⟩
theorem sw_bl (b : Bool) : Sw 0 0 (.bl b) := ⟨⟨.bool b, rfl, rfl, Nat.le_refl _, by cases b <;> rfl, Nat.le_refl _⟩⟩
theorem sw_int {i : Int} (h : i.natAbs < 10 ^ 12) : Sw 0 40 (.int i) := by
  have e : (10 : Nat) ^ 12 < 2 ^ 40 := by decide
  have l : i.natAbs ≠ 0 → i.natAbs.log2 < 40 := fun z => (Nat.log2_lt z).mpr (by omega)
  refine ⟨⟨.int i, rfl, ?_, Nat.le_refl _, ?_, ?_⟩⟩
  · show decide (i.natAbs.log2 < 1920) = true
    by_cases z : i.natAbs = 0
    · rw [z]; decide
    · have := l z
      simp only [decide_eq_true_eq]
      omega
  · show decide ((PyData.shown (.int i)).length ≤ 13) = true
    exact decide_eq_true (PyData.shown_int_le h)
  · show (if i == 0 then 0 else i.natAbs.log2 + 1) ≤ 40
    split
    · omega
    · rename_i z
      have : i ≠ 0 := by simpa using z
      have := l (by omega)
      omega
theorem sw_str {x : Str} {n : Nat} (h : (PyData.str x).leavesShort 13 = true) (hn : x.cps.size ≤ n) : Sw 0 n (.str x) := ⟨⟨.str x, rfl, rfl, Nat.le_refl _, h, hn⟩⟩
theorem sw_tup {k w : Nat} {ds : List D} (h : SwL k w ds) : Sw (k + 1) w (.tup ds) := by
  obtain ⟨ps, a, b, c, e, f⟩ := h.ex
  exact ⟨.tuple ps, by show (pyEs ds).map PyData.tuple = _; rw [a]; rfl, b, by show PyData.depthAll ps + 1 ≤ _; omega, e, f⟩
theorem sw_lst {k w : Nat} {ds : List D} (h : SwL k w ds) : Sw (k + 1) w (.lst ds) := by
  obtain ⟨ps, a, b, c, e, f⟩ := h.ex
  exact ⟨.list ps, by show (pyEs ds).map PyData.list = _; rw [a]; rfl, b, by show PyData.depthAll ps + 1 ≤ _; omega, e, f⟩
theorem swl_nil : SwL 0 0 [] := ⟨⟨[], rfl, rfl, Nat.le_refl _, rfl, Nat.le_refl _⟩⟩
theorem swl_cons {k w k' w' : Nat} {d : D} {ds : List D} (h : Sw k w d) (t : SwL k' w' ds) : SwL (max k k') (w + 1 + w') (d :: ds) := by
  obtain ⟨p, a, b, c, e, f⟩ := h.ex
  obtain ⟨ps, a', b', c', e', f'⟩ := t.ex
  refine ⟨p :: ps, by unfold pyEs; rw [a, a'], ?_, ?_, ?_, ?_⟩
  · show (p.showable && PyData.showableAll ps) = true
    rw [b, b']; rfl
  · show max p.depth (PyData.depthAll ps) ≤ _
    omega
  · show (p.leavesShort 13 && PyData.leavesShortAll 13 ps) = true
    rw [e, e']; rfl
  · show p.weight + 1 + PyData.weightAll ps ≤ _
    omega
theorem swl_one {k w : Nat} : ∀ {ds : List D}, (∀ d ∈ ds, Sw k w d) → SwL k ((w + 1) * ds.length) ds
  | [], _ => swl_nil.up (Nat.zero_le _) (Nat.zero_le _)
  | d :: ds, h => (swl_cons (h d (by simp)) (swl_one fun x hx => h x (by simp [hx]))).up (by omega) (by rw [List.length_cons, Nat.mul_succ]; omega)
theorem Sw.fit {d : D} {k w : Nat} (h : Sw k w d) (hk : k ≤ 50) (hw : w ≤ 1048576) : ∃ p, pyE d = some p ∧ Fit p := by
  obtain ⟨p, a, b, c, e, f⟩ := h.ex
  exact ⟨p, a, b, by omega, PyData.shown_fits (B := 13) (by omega) (by omega) e (by omega)⟩
end DL
/-! the head of a law: facts of own errors, code objects with their tables, sys.modules in sight -/
namespace Hx
open PySem PySem.Spec PyProof.Rows L2 He DL
/-! ### what is told -/
structure SaysY (fa : List Fa) (fn : List DefD) (tf : List Defn) (ex : PySem.W.Frag → Bool) (hp : Heap) (K : PySem.W.Frag) : Prop where
  d : SaysD fa fn K
  ex : ex K = true
  hd : ∀ p ∈ tf, PySem.W.codeHdIn K (cT K p).1 (cT K p).2 = true
  out : ∀ p ∈ tf, K.lookup (cT K p).2 = none
  mt : ∀ p ∈ tf, hp.get? (cT K p).2 = some { cls := .none, data := .fields #[] }
abbrev AlY : Type := AlD × Bool
def frY (n : Nat) (g : Addr → Option Obj) : PySem.W.Frag := frT g (sysModules :: cStatics :: asD g n)
def obsY (n : Nat) (fa : List Fa) (fn : List DefD) (tf : List Defn) (ex : PySem.W.Frag → Bool) (g : Addr → Option Obj) : AlY := (obsD fa fn (frY n g), ex (frY n g) && tabsB g tf (frY n g))
theorem saysY_of {n : Nat} {fa : List Fa} {fn : List DefD} {tf : List Defn} {ex : PySem.W.Frag → Bool} {hp : Heap} (e : obsY n fa fn tf ex hp.get? = (valD fn, true)) : SaysY fa fn tf ex hp (frY n hp.get?) := by
  obtain ⟨e1, e2⟩ := Prod.mk.inj e
  obtain ⟨h1, h2⟩ := ba e2
  generalize hK : frY n hp.get? = K at e1 h1 h2
  have one : ∀ p ∈ tf, PySem.W.codeHdIn K (cT K p).1 (cT K p).2 = true ∧ ∃ o, hp.get? (cT K p).2 = some o ∧ emptyTab o = true := fun p hp' => by
    obtain ⟨h3, h4⟩ := ba (List.all_eq_true.mp h2 p hp')
    cases q : hp.get? (cT K p).2 with
    | none => rw [q] at h4; cases h4
    | some o => rw [q] at h4; exact ⟨h3, o, rfl, h4⟩
  refine ⟨e1, h1, fun p m => (one p m).1, fun p m => ?_, fun p m => ?_⟩
  · obtain ⟨_, o, q, z⟩ := one p m
    rw [← hK] at q ⊢
    exact frT_none q z
  · obtain ⟨_, o, q, z⟩ := one p m
    rw [q, emptyTab_eq z]
def hookY (n : Nat) (fa : List Fa) (fn : List DefD) (tf : List Defn) (ex : PySem.W.Frag → Bool) : PySem.W.Hook where
  α := AlY
  obs := fun s => obsY n fa fn tf ex s.heap.get?
  val := fun _ => (valD fn, true)
  says := fun _ hp => ∃ K : PySem.W.Frag, K.In hp ∧ SaysY fa fn tf ex hp K
  of := fun _ _ e => ⟨_, frT_in, saysY_of e⟩
  keeps := fun _ _ _ ⟨K, hK, c⟩ k => ⟨K, PySem.W.Frag.In.keeps hK k, c.d, c.ex, c.hd, c.out, fun p m => k _ _ (c.mt p m)⟩
theorem obsY_eq {n : Nat} {fa : List Fa} {fn : List DefD} {tf : List Defn} {ex : PySem.W.Frag → Bool} {g : Addr → Option Obj} {s : Shared} (h : ∀ a, g a = s.heap.get? a) : obsY n fa fn tf ex g = (hookY n fa fn tf ex).obs s := by
  have e : g = s.heap.get? := funext h
  rw [e] <;> rfl
theorem SaysY.tabs {fa : List Fa} {fn : List DefD} {tf : List Defn} {ex : PySem.W.Frag → Bool} {hp : Heap} {K : PySem.W.Frag} (c : SaysY fa fn tf ex hp K) (X : K.In hp) : Gd.TabsAt hp K (tf.map (cT K)) where
  raw := by
    intro p m
    obtain ⟨q, hq, rfl⟩ := List.mem_map.mp m
    exact c.mt q hq
  free := by
    intro p m
    obtain ⟨q, hq, rfl⟩ := List.mem_map.mp m
    exact c.out q hq
  code := by
    intro p m
    obtain ⟨q, hq, rfl⟩ := List.mem_map.mp m
    exact PySem.W.codeHd_of_K X (c.hd q hq)
/-- a def's code object is the one whose table is told -/
theorem code_of {K : PySem.W.Frag} {p : Defn} {x qual : Str} {params : Arguments} {body : List Stmt} {scope : Scope} {dvs : List V} {kws : List (Str × V)} {fd : FuncData} (F : FunD K x qual params body scope dvs kws (fAd K p) fd) : fd.code = .ref (cT K p).1 := by
  obtain ⟨oc, od, dV, kV, doc, pm, an, cdv, ct, osl, rfl, lk, hcd, _, _⟩ := F.ex
  obtain ⟨c, rfl⟩ := codeIn_ref hcd
  show Value.ref c = .ref (codeOf K p)
  rw [codeOf_eq lk rfl]
/-! ### own errors -/
def oexB (K : PySem.W.Frag) (C : Addr) : Bool := (match K.lookup C with
  | some ⟨.type "type", _, .cls cd, sl⟩ => (match cd.mro, sl.toList with
    | .ref C' :: bm, [_, _, _, _, some (.builtin n), _] => C' == C && (n == "ValueError.__new__" && (!cd.hasDel && (cd.hasDict && PySem.HandSPX.refsVE bm)))
    | _, _ => false)
  | _ => false) && (eqO (PySem.W.findIn K (.ref C) "__setattr__") (some (some (.builtin "object.__setattr__"))) && (decide (PySem.W.subIn K (.ref C) (.type "BaseException") = some true) && (decide (PySem.W.typeIn K (.ref C) = some (.type "type")) && PySem.W.keepIn K (.ref C))))
theorem oexB_ok {K : PySem.W.Frag} {C : Addr} (h : oexB K C = true) : OexC K C := by
  obtain ⟨h1, h⟩ := ba h
  obtain ⟨h2, h⟩ := ba h
  obtain ⟨h3, h⟩ := ba h
  obtain ⟨h4, h5⟩ := ba h
  refine ⟨?_, eqO_ok h2, of_decide_eq_true h3, of_decide_eq_true h4, h5⟩
  split at h1
  · rename_i dd cd sl ho
    split at h1
    · rename_i C' bm k0 k1 k2 k3 n k5 hm hs
      simp only [Bool.and_eq_true, beq_iff_eq, Bool.not_eq_true'] at h1
      obtain ⟨rfl, rfl, hdel, hdict, hve⟩ := h1
      obtain ⟨nm, bs, mro, ns, qn, hd, sn, sub, ab, col, del⟩ := cd
      dsimp only at hm hdel hdict
      subst hm hdel hdict
      have hsl : sl = #[k0, k1, k2, k3, some (.builtin "ValueError.__new__"), k5] := by
        obtain ⟨l⟩ := sl
        simp only at hs
        rw [hs]
      subst hsl
      exact ⟨nm, qn, ns, bs, bm, sn, sub, ab, col, dd, k0, k1, k2, k3, k5, ho, hve⟩
    · cases h1
  · cases h1
/-- the errors' base, without an __init__ of its own -/
def baseB (K : PySem.W.Frag) (B : Addr) : Bool := PySem.W.readsIn K B (.type "type") && (eqO (PySem.W.specialIn K (.ref B) "__getattribute__") (some (some (.builtin "type.__getattribute__"))) && (match PySem.W.findCls K (.ref B) (.type "type") "__init__" with
  | some (.val v) => decide (v = .builtin "ValueError.__init__")
  | _ => false))
theorem baseB_ok {K : PySem.W.Frag} {B : Addr} (h : baseB K B = true) : PySem.W.readsIn K B (.type "type") = true ∧ PySem.W.specialIn K (.ref B) "__getattribute__" = some (some (.builtin "type.__getattribute__")) ∧ PySem.W.findCls K (.ref B) (.type "type") "__init__" = some (.val (.builtin "ValueError.__init__")) := by
  obtain ⟨h1, h⟩ := ba h
  obtain ⟨h2, h3⟩ := ba h
  refine ⟨h1, eqO_ok h2, ?_⟩
  split at h3
  · rename_i v e
    rw [e, of_decide_eq_true h3]
  · cases h3
abbrev Row : Type := Str × Str × List Str
def errB (K : PySem.W.Frag) (x : Str) (fls : List Str) : Bool := oexB K (ga K x) && (eqO (PySem.W.findIn K (.ref (ga K x)) "__init__") (some (some (.ref (fAd K (x, some "__init__"))))) && (decide (PySem.W.typeIn K (.ref (fAd K (x, some "__init__"))) = some (.type "function")) && ((fls.all fun f => eqO (PySem.W.findIn K (.ref (ga K x)) f) (some none)) && xfB K (ga K x))))
structure ErrK (K : PySem.W.Frag) (x : Str) (fls : List Str) : Prop where
  cls : OexC K (ga K x)
  ini : PySem.W.findIn K (.ref (ga K x)) "__init__" = some (some (.ref (fAd K (x, some "__init__"))))
  fn : PySem.W.typeIn K (.ref (fAd K (x, some "__init__"))) = some (.type "function")
  no : ∀ f ∈ fls, PySem.W.findIn K (.ref (ga K x)) f = some none
  xf : XfC K (ga K x)
theorem errB_ok {K : PySem.W.Frag} {x : Str} {fls : List Str} (h : errB K x fls = true) : ErrK K x fls := by
  obtain ⟨h1, h⟩ := ba h
  obtain ⟨h2, h⟩ := ba h
  obtain ⟨h3, h⟩ := ba h
  obtain ⟨h4, h5⟩ := ba h
  exact ⟨oexB_ok h1, eqO_ok h2, of_decide_eq_true h3, fun f hf => eqO_ok (List.all_eq_true.mp h4 f hf), xfB_ok h5⟩
/-- the tags: told apart -/
def tagsK (K : PySem.W.Frag) (l : List Row) : Bool := l.all fun q => errB K q.2.1 q.2.2 && (decide (q.2.2.Nodup ∧ q.2.2.length < 1000) && l.all fun r => decide (PySem.W.exmOne K (.ref (ga K q.2.1)) (.ref (ga K r.2.1)) = some (decide (ga K q.2.1 = ga K r.2.1))) && (decide (q = r) || !decide (ga K q.2.1 = ga K r.2.1)))
theorem tagsK_ok {K : PySem.W.Frag} {l : List Row} (h : tagsK K l = true) : TagsOk K (l.map fun q => (q.1, ga K q.2.1, q.2.2)) := by
  have one : ∀ q ∈ l, (decide (q.2.2.Nodup ∧ q.2.2.length < 1000)) = true ∧ ∀ r ∈ l, decide (PySem.W.exmOne K (.ref (ga K q.2.1)) (.ref (ga K r.2.1)) = some (decide (ga K q.2.1 = ga K r.2.1))) = true ∧ (decide (q = r) || !decide (ga K q.2.1 = ga K r.2.1)) = true := fun q hq => by
    obtain ⟨_, h2⟩ := ba (List.all_eq_true.mp h q hq)
    obtain ⟨h3, h4⟩ := ba h2
    exact ⟨h3, fun r hr => ba (List.all_eq_true.mp h4 r hr)⟩
  refine ⟨fun q mq r mr => ?_, fun q mq r mr e => ?_, fun q mq => ?_⟩
  · obtain ⟨q', hq, rfl⟩ := List.mem_map.mp mq
    obtain ⟨r', hr, rfl⟩ := List.mem_map.mp mr
    exact of_decide_eq_true ((one q' hq).2 r' hr).1
  · obtain ⟨q', hq, rfl⟩ := List.mem_map.mp mq
    obtain ⟨r', hr, rfl⟩ := List.mem_map.mp mr
    have z := ((one q' hq).2 r' hr).2
    rw [Bool.or_eq_true] at z
    rcases z with z | z
    · rw [of_decide_eq_true z]
    · have e : ga K q'.2.1 = ga K r'.2.1 := e
      simp [e] at z
  · obtain ⟨q', hq, rfl⟩ := List.mem_map.mp mq
    exact of_decide_eq_true (one q' hq).1
theorem tagsK_err {K : PySem.W.Frag} {l : List Row} (h : tagsK K l = true) {q : Row} (hq : q ∈ l) : ErrK K q.2.1 q.2.2 := errB_ok (ba (List.all_eq_true.mp h q hq)).1
theorem sys_of {K : PySem.W.Frag} (h : (K.lookup sysModules).isSome = true) : Sys K := Option.isSome_iff_exists.mp h
theorem nd_inj {α : Type} : ∀ {l : List α}, l.Nodup → ∀ {i j : Nat} {a : α}, l[i]? = some a → l[j]? = some a → i = j
  | [], _, i, _, _, h, _ => by simp at h
  | x :: l, hd, 0, 0, _, _, _ => rfl
  | x :: l, hd, 0, j + 1, a, h1, h2 => by
    simp at h1 h2
    subst h1
    exact absurd (List.mem_of_getElem? h2) (List.nodup_cons.mp hd).1
  | x :: l, hd, i + 1, 0, a, h1, h2 => by
    simp at h1 h2
    subst h2
    exact absurd (List.mem_of_getElem? h1) (List.nodup_cons.mp hd).1
  | x :: l, hd, i + 1, j + 1, a, h1, h2 => by
    simp at h1 h2
    rw [nd_inj (List.nodup_cons.mp hd).2 h1 h2]
/-- no code object as yet -/
theorem tabG0 {T : List (Addr × Str)} {H : Hp} (h : ∀ p ∈ T, H p.1 = some (.tbl #[])) : TabG T (fun _ => none) H := fun p hp => ⟨#[], h p hp, by first | trivial | decide | simp [TriplesOk], fun pos cv hc => by simp [codeAmong] at hc⟩
end Hx
/-! what the defs compute, as transformers -/
namespace K78
open PySem PySem.Spec PyProof.Rows L2 DL
def Ψ__law_draw (_ : Gm) : DFn := Φ_draw
def Ψ_in_tuples (_ : Gm) : DFn := Φt 12
def tags (gm : Gm) : List (Str × Addr × List Str) := [("lot", gm.a "BadLot", ["lot"]), ("number", gm.a "BadNumber", ["what", "number"]), ("row", gm.a "BadRow", ["row"]), ("table", gm.a "BadTable", ["table"]), ("web", gm.a "BadWeb", ["what", "value"]), ("many", gm.a "TooMany", ["what", "many", "limit"]), ("unlike", gm.a "Unlike", ["what"])]
def Ψ__law_fault (gm : Gm) : DFn := fun ds c R _ => ∃ d env Ψ, ds = [.sc d env] ∧ flats env = true ∧ gm.clo d Ψ ∧ Ψ env c (fun _ c' => R .non c') fun x c' => ∃ tag, (tag, x.C, x.ns) ∈ tags gm ∧ R (.tup (.str tag :: x.ds)) c'
def Ψ_is_whole (gm : Gm) : DFn := fun ds c R RX => ds.length = 1 ∧ (dRet ((dAnd (dCB cIsi (aCons (dVar 0) (aCons (dC (.ty "int")) aNil))) (dNot (dCB cIsi (aCons (dVar 0) (aCons (dC (.ty "bool")) aNil))))))) ⟨slots0 false 1 ds, c⟩ { nx := fun s => R .non s.c, rt := fun d s => R d s.c }
def Ψ_is_tuple_of (gm : Gm) : DFn := fun ds c R RX => ds.length = 2 ∧ (dRet ((dAnd (dCB cIsi (aCons (dVar 0) (aCons (dC (.ty "tuple")) aNil))) (dOp oEq (dCB cLen (aCons (dVar 0) aNil)) (dVar 1))))) ⟨slots0 false 2 ds, c⟩ { nx := fun s => R .non s.c, rt := fun d s => R d s.c }
def Ψ_need_between (gm : Gm) : DFn := fun ds c R RX => ds.length = 4 ∧ (dSeq (dIfS (tNotD (tBool (dCall (Ψ_is_whole gm) RX (aCons (dVar 1) aNil)))) (dRaise (gm.a "BadNumber") ["what", "number"] RX (aCons (dVar 0) (aCons (dVar 1) aNil))) (dNext)) (dIfS ((tOrD ((tAndD (tCm (oIsN true) (dVar 2) (dC .non)) (tCm (oI0 fun i j => .bl (decide (i < j))) (dVar 1) (dVar 2)))) ((tAndD (tCm (oIsN true) (dVar 3) (dC .non)) (tCm (oI0 fun i j => .bl (decide (i > j))) (dVar 1) (dVar 3)))))) (dRaise (gm.a "BadNumber") ["what", "number"] RX (aCons (dVar 0) (aCons (dVar 1) aNil))) (dNext))) ⟨slots0 false 4 ds, c⟩ { nx := fun s => R .non s.c, rt := fun d s => R d s.c }
def Ψ_is_web (gm : Gm) : DFn := fun ds c R RX => ds.length = 1 ∧ (dSeq (dIfS ((tOrD (tNotD (tBool (dCall (Ψ_is_tuple_of gm) RX (aCons (dVar 0) (aCons (dC (.int 2)) aNil))))) (tOrD (tNotD (tBool (dCall (Ψ_is_whole gm) RX (aCons (dOp oIx (dVar 0) (dC (.int 0))) aNil)))) (tNotD (tBool (dChain (fun i j => decide (i ≤ j)) (fun i j => decide (i ≤ j)) (dC (.int 1)) (dOp oIx (dVar 0) (dC (.int 0))) (dC (.int 8)))))))) (dRet (dC (.bl false))) (dNext)) (dSeq (dIfS ((tOrD (tNotD (tBool (dCB cIsi (aCons (dOp oIx (dVar 0) (dC (.int 1))) (aCons (dC (.ty "tuple")) aNil))))) (tCm (oI0 fun i j => .bl (decide (i > j))) (dCB cLen (aCons (dOp oIx (dVar 0) (dC (.int 1))) aNil)) (dC (.int 12))))) (dRet (dC (.bl false))) (dNext)) (dSeq (dFor (dSeq2 (dOp oIx (dVar 0) (dC (.int 1)))) (fun d s R => R (s.set 1 (.d d))) (dSeq (dIfS ((tOrD (tNotD (tBool (dCall (Ψ_is_tuple_of gm) RX (aCons (dVar 1) (aCons (dC (.int 2)) aNil))))) (tNotD (tBool (dCB cAll (aCons (dFz (dLc [2] (dSeq2 (dVar 1)) (fun d s R => R (s.set 2 (.d d))) dYes ((dAnd (dCall (Ψ_is_whole gm) (fun _ _ => False) (aCons (dVar 2) aNil)) (dChain (fun i j => decide (i ≤ j)) (fun i j => decide (i < j)) (dC (.int 0)) (dVar 2) (dOp oIx (dVar 0) (dC (.int 0)))))))) aNil)))))) (dRet (dC (.bl false))) (dNext)) (dIfS (tCm oEq (dOp oIx (dVar 1) (dC (.int 0))) (dOp oIx (dVar 1) (dC (.int 1)))) (dRet (dC (.bl false))) (dNext)))) (dRet (dC (.bl true)))))) ⟨slots0 false 3 ds, c⟩ { nx := fun s => R .non s.c, rt := fun d s => R d s.c }
def Ψ_web_from (gm : Gm) : DFn := fun ds c R RX => ds.length = 2 ∧ (dSeq (dSet 2 (dCall (Ψ_in_tuples gm) RX (aCons (dVar 1) aNil))) (dSeq (dIfS (tNotD (tBool (dCall (Ψ_is_web gm) RX (aCons (dVar 2) aNil)))) (dRaise (gm.a "BadWeb") ["what", "value"] RX (aCons (dVar 0) (aCons (dVar 1) aNil))) (dNext)) (dRet (dVar 2)))) ⟨slots0 false 3 ds, c⟩ { nx := fun s => R .non s.c, rt := fun d s => R d s.c }
def Ψ_is_end (gm : Gm) : DFn := fun ds c R RX => ds.length = 5 ∧ (dSeq (dIfS ((tOrD (tNotD (tBool (dCall (Ψ_is_tuple_of gm) RX (aCons (dVar 4) (aCons (dC (.int 2)) aNil))))) (tOrD (tNotD (tBool (dCall (Ψ_is_whole gm) RX (aCons (dOp oIx (dVar 4) (dC (.int 0))) aNil)))) (tNotD (tBool (dCB cIsi (aCons (dOp oIx (dVar 4) (dC (.int 1))) (aCons (dC (.ty "bool")) aNil)))))))) (dRet (dC (.bl false))) (dNext)) (dSeq (dIfS (tNotD (tBool (dChain (fun i j => decide (i ≤ j)) (fun i j => decide (i < j)) (dC (.int 0)) (dOp oIx (dVar 4) (dC (.int 0))) (dCB cLen (aCons (dOp oIx (dVar 1) (dC (.int 1))) aNil))))) (dRet (dC (.bl false))) (dNext)) (dSeq (dAsg (dFz (dLc [7] (dSeq2 (dOp oIx (dOp oIx (dVar 0) (dC (.int 1))) (dVar 3))) (fun d s R => R (s.set 7 (.d d))) dYes (dOp oIx (dVar 2) (dVar 7)))) (gLs 2 (gsC (fun d s R => R (s.set 5 (.d d))) (gsC (fun d s R => R (s.set 6 (.d d))) gsN)))) (dRet (dOp oEq (dOp oIx (dOp oIx (dVar 1) (dC (.int 1))) (dOp oIx (dVar 4) (dC (.int 0)))) (dIf (tBool (dOp oIx (dVar 4) (dC (.int 1)))) (dTup (aCons (dVar 6) (aCons (dVar 5) aNil))) (dTup (aCons (dVar 5) (aCons (dVar 6) aNil))))))))) ⟨slots0 false 8 ds, c⟩ { nx := fun s => R .non s.c, rt := fun d s => R d s.c }
def Ψ_is_way (gm : Gm) : DFn := fun ds c R RX => ds.length = 3 ∧ (dSeq (dIfS ((tOrD (tNotD (tBool (dCall (Ψ_is_tuple_of gm) RX (aCons (dVar 2) (aCons (dC (.int 2)) aNil))))) (tOrD (tNotD (tBool (dCall (Ψ_is_tuple_of gm) RX (aCons (dOp oIx (dVar 2) (dC (.int 0))) (aCons (dOp oIx (dVar 0) (dC (.int 0))) aNil))))) (tNotD (tBool (dCall (Ψ_is_tuple_of gm) RX (aCons (dOp oIx (dVar 2) (dC (.int 1))) (aCons (dCB cLen (aCons (dOp oIx (dVar 0) (dC (.int 1))) aNil)) aNil)))))))) (dRet (dC (.bl false))) (dNext)) (dSeq (dSet 3 (dOp oIx (dVar 2) (dC (.int 0)))) (dSeq (dIfS (tNotD (tBool (dCB cAll (aCons (dFz (dLc [4] (dSeq2 (dVar 3)) (fun d s R => R (s.set 4 (.d d))) dYes ((dAnd (dCall (Ψ_is_whole gm) (fun _ _ => False) (aCons (dVar 4) aNil)) (dChain (fun i j => decide (i ≤ j)) (fun i j => decide (i < j)) (dC (.int 0)) (dVar 4) (dOp oIx (dVar 1) (dC (.int 0)))))))) aNil)))) (dRet (dC (.bl false))) (dNext)) (dRet (dCB cAll (aCons (dFz (dLc [5, 6] (dEnT (aCons (dOp oIx (dVar 2) (dC (.int 1))) aNil)) (gTp 2 (gsC (fun d s R => R (s.set 5 (.d d))) (gsC (fun d s R => R (s.set 6 (.d d))) gsN))) dYes (dCall (Ψ_is_end gm) (fun _ _ => False) (aCons (dVar 0) (aCons (dVar 1) (aCons (dVar 3) (aCons (dVar 5) (aCons (dVar 6) aNil)))))))) aNil)))))) ⟨slots0 false 7 ds, c⟩ { nx := fun s => R .non s.c, rt := fun d s => R d s.c }
def Ψ_is_web_map (gm : Gm) : DFn := fun ds c R RX => ds.length = 3 ∧ (dSeq (dSet 3 (dCall (Ψ_web_from gm) RX (aCons (dC (.str "above")) (aCons (dVar 0) aNil)))) (dRet (dCall (Ψ_is_way gm) RX (aCons (dVar 3) (aCons (dCall (Ψ_web_from gm) RX (aCons (dC (.str "below")) (aCons (dVar 1) aNil))) (aCons (dVar 2) aNil)))))) ⟨slots0 false 4 ds, c⟩ { nx := fun s => R .non s.c, rt := fun d s => R d s.c }
def Ψ_way_from (gm : Gm) : DFn := fun ds c R RX => ds.length = 3 ∧ (dSeq (dSet 3 (dCall (Ψ_in_tuples gm) RX (aCons (dVar 2) aNil))) (dSeq (dIfS (tNotD (tBool (dCall (Ψ_is_way gm) RX (aCons (dVar 0) (aCons (dVar 1) (aCons (dVar 3) aNil)))))) (dRaise (gm.a "BadRow") ["row"] RX (aCons (dVar 2) aNil)) (dNext)) (dRet (dVar 3)))) ⟨slots0 false 4 ds, c⟩ { nx := fun s => R .non s.c, rt := fun d s => R d s.c }
def Ψ_ends_over (gm : Gm) : DFn := fun ds c R RX => ds.length = 5 ∧ (dSeq (dOwn 5 (lLst aNil)) (dSeq (dFor (dEnT (aCons (dOp oIx (dVar 0) (dC (.int 1))) aNil)) (gTp 2 (gsC (fun d s R => R (s.set 6 (.d d))) (gsC (fun d s R => R (s.set 7 (.d d))) gsN))) (dSeq (dAsg (dOp oIx (dOp oIx (dVar 1) (dC (.int 1))) (dVar 6)) (gTp 2 (gsC (fun d s R => R (s.set 8 (.d d))) (gsC (fun d s R => R (s.set 9 (.d d))) gsN)))) (dIfS ((tAndD (tCm oEq (dVar 8) (dVar 3)) (tCm oEq (dOp oIx (dVar 7) (dIf (tBool (dVar 9)) (dOp (oI0 fun i j => .int (i - j)) (dC (.int 1)) (dVar 4)) (dVar 4))) (dVar 2)))) (dAppend 5 (dVar 6)) (dNext)))) (dFrz 5 (dRet (dVar 5))))) ⟨slots0 false 10 ds, c⟩ { nx := fun s => R .non s.c, rt := fun d s => R d s.c }
def Ψ_is_cover_by (gm : Gm) : DFn := fun ds c R RX => ds.length = 3 ∧ (dSeq (dFor (dRng (aCons (dOp oIx (dVar 0) (dC (.int 0))) aNil)) (fun d s R => R (s.set 3 (.d d))) (dFor (dEnT (aCons (dOp oIx (dVar 1) (dC (.int 1))) aNil)) (gTp 2 (gsC (fun d s R => R (s.set 4 (.d d))) (gsC (fun d s R => R (s.set 5 (.d d))) gsN))) (dFor (dRng (aCons (dC (.int 2)) aNil)) (fun d s R => R (s.set 6 (.d d))) (dIfS ((tAndD (tCm oEq (dOp oIx (dVar 5) (dVar 6)) (dOp oIx (dOp oIx (dVar 2) (dC (.int 0))) (dVar 3))) (tCm oNe (dCB cLen (aCons (dCall (Ψ_ends_over gm) RX (aCons (dVar 0) (aCons (dVar 2) (aCons (dVar 3) (aCons (dVar 4) (aCons (dVar 6) aNil)))))) aNil)) (dC (.int 1))))) (dRet (dC (.bl false))) (dNext))))) (dRet (dC (.bl true)))) ⟨slots0 false 7 ds, c⟩ { nx := fun s => R .non s.c, rt := fun d s => R d s.c }
def Ψ_is_cover (gm : Gm) : DFn := fun ds c R RX => ds.length = 3 ∧ (dSeq (dSet 3 (dCall (Ψ_web_from gm) RX (aCons (dC (.str "above")) (aCons (dVar 0) aNil)))) (dSeq (dSet 4 (dCall (Ψ_web_from gm) RX (aCons (dC (.str "below")) (aCons (dVar 1) aNil)))) (dRet (dCall (Ψ_is_cover_by gm) RX (aCons (dVar 3) (aCons (dVar 4) (aCons (dCall (Ψ_way_from gm) RX (aCons (dVar 3) (aCons (dVar 4) (aCons (dVar 2) aNil)))) aNil))))))) ⟨slots0 false 5 ds, c⟩ { nx := fun s => R .non s.c, rt := fun d s => R d s.c }
def Ψ_shifts_from (gm : Gm) : DFn := fun ds c R RX => ds.length = 3 ∧ (dSeq (dSet 3 (dCall (Ψ_in_tuples gm) RX (aCons (dVar 2) aNil))) (dSeq (dIfS ((tOrD (tNotD (tBool (dCall (Ψ_is_tuple_of gm) RX (aCons (dVar 3) (aCons (dVar 1) aNil))))) (tNotD (tBool (dCB cAll (aCons (dFz (dLc [4] (dSeq2 (dVar 3)) (fun d s R => R (s.set 4 (.d d))) dYes ((dAnd (dCall (Ψ_is_whole gm) (fun _ _ => False) (aCons (dVar 4) aNil)) (dChain (fun i j => decide (i ≤ j)) (fun i j => decide (i < j)) (dC (.int 0)) (dVar 4) (dVar 0)))))) aNil)))))) (dRaise (gm.a "BadRow") ["row"] RX (aCons (dVar 2) aNil)) (dNext)) (dRet (dVar 3)))) ⟨slots0 false 5 ds, c⟩ { nx := fun s => R .non s.c, rt := fun d s => R d s.c }
def Ψ_cover_by (gm : Gm) : DFn := fun ds c R RX => ds.length = 3 ∧ (dSeq (dSet 3 (dCall (Ψ_web_from gm) RX (aCons (dC (.str "web")) (aCons (dVar 0) aNil)))) (dSeq (dExpr (dCall (Ψ_need_between gm) RX (aCons (dC (.str "m")) (aCons (dVar 1) (aCons (dC (.int 1)) (aCons (dC (.int 6)) aNil)))))) (dSeq (dSet 4 (dCall (Ψ_shifts_from gm) RX (aCons (dVar 1) (aCons (dCB cLen (aCons (dOp oIx (dVar 3) (dC (.int 1))) aNil)) (aCons (dVar 2) aNil))))) (dSeq (dIfS (tCm (oI0 fun i j => .bl (decide (i > j))) (dOp oMulX (dOp oIx (dVar 3) (dC (.int 0))) (dVar 1)) (dC (.int 8))) (dRaise (gm.a "TooMany") ["what", "many", "limit"] RX (aCons (dC (.str "places")) (aCons (dOp oMulX (dOp oIx (dVar 3) (dC (.int 0))) (dVar 1)) (aCons (dC (.int 8)) aNil)))) (dNext)) (dSeq (dIfS (tCm (oI0 fun i j => .bl (decide (i > j))) (dOp oMulX (dCB cLen (aCons (dOp oIx (dVar 3) (dC (.int 1))) aNil)) (dVar 1)) (dC (.int 12))) (dRaise (gm.a "TooMany") ["what", "many", "limit"] RX (aCons (dC (.str "ties")) (aCons (dOp oMulX (dCB cLen (aCons (dOp oIx (dVar 3) (dC (.int 1))) aNil)) (dVar 1)) (aCons (dC (.int 12)) aNil)))) (dNext)) (dSeq (dPar 5 6 (pO (lLst aNil)) (pO (lLst aNil))) (dSeq (dFor (dEnT (aCons (dOp oIx (dVar 3) (dC (.int 1))) aNil)) (gTp 2 (gsC (fun d s R => R (s.set 7 (.d d))) (gsC (fun d s R => R (s.set 8 (.d d))) gsN))) (dFor (dRng (aCons (dVar 1) aNil)) (fun d s R => R (s.set 9 (.d d))) (dSeq (dAppend 5 (dTup (aCons (dOp oAddX (dOp oMulX (dOp oIx (dVar 8) (dC (.int 0))) (dVar 1)) (dVar 9)) (aCons (dOp oAddX (dOp oMulX (dOp oIx (dVar 8) (dC (.int 1))) (dVar 1)) (dOp (oI (fun _ j => 0 < j) fun i j => .int (i % j)) (dOp oAddX (dVar 9) (dOp oIx (dVar 4) (dVar 7))) (dVar 1))) aNil)))) (dAppend 6 (dTup (aCons (dVar 7) (aCons (dC (.bl false)) aNil))))))) (dFrz 6 (dFrz 5 (dSeq (dSet 10 (dCB cTup (aCons (dFz (dLc [11] (dRng (aCons (dOp oMulX (dOp oIx (dVar 3) (dC (.int 0))) (dVar 1)) aNil)) (fun d s R => R (s.set 11 (.d d))) dYes (dOp (oI CDiv fun i j => .int (i / j)) (dVar 11) (dVar 1)))) aNil))) (dRet (dTup (aCons (dTup (aCons (dOp oMulX (dOp oIx (dVar 3) (dC (.int 0))) (dVar 1)) (aCons (dCB cTup (aCons (dVar 5) aNil)) aNil))) (aCons (dTup (aCons (dVar 10) (aCons (dCB cTup (aCons (dVar 6) aNil)) aNil))) aNil)))))))))))))) ⟨slots0 false 12 ds, c⟩ { nx := fun s => R .non s.c, rt := fun d s => R d s.c }
def Ψ__law_pick (gm : Gm) : DFn := fun ds c R RX => ds.length = 1 ∧ (dRet (dOp oIx (dVar 1) (dCallP 0 (Ψ__law_draw gm) RX (aCons (dCB cLen (aCons (dVar 1) aNil)) aNil)))) ⟨slots0 true 2 ds, c⟩ { nx := fun s => R .non s.c, rt := fun d s => R d s.c }
def Ψ__law_shuffled (gm : Gm) : DFn := fun ds c R RX => ds.length = 1 ∧ (dSeq (dPar 2 3 (pO (lList (aCons (dVar 1) aNil))) (pO (lLst aNil))) (dSeq (dFor (dRng (aCons (dCB cLen (aCons (dVar 1) aNil)) aNil)) (fun d s R => R (s.set 4 (.d d))) (dAppend 3 (dPop 2 (dCallP 0 (Ψ__law_draw gm) RX (aCons (dLenO 2) aNil))))) (dFrz 3 (dRet (dVar 3))))) ⟨slots0 true 5 ds, c⟩ { nx := fun s => R .non s.c, rt := fun d s => R d s.c }
def Ψ__law_gcd (gm : Gm) : DFn := fun ds c R RX => ds.length = 2 ∧ (dSeq (dPar 0 1 (pD (dCB cAbs (aCons (dVar 0) aNil))) (pD (dCB cAbs (aCons (dVar 1) aNil)))) (dSeq (dFor (dRng (aCons (dOp oAddX (dC (.int 4)) (dOp oMulX (dC (.int 2)) (dBits (dCB cInt (aCons (dVar 1) aNil))))) aNil)) (fun d s R => R (s.set 2 (.d d))) (dSeq (dIfS (tCm oEq (dVar 1) (dC (.int 0))) ((fun s E => E.bk s)) (dNext)) (dPar 0 1 (pD (dVar 1)) (pD (dOp (oI (fun _ j => 0 < j) fun i j => .int (i % j)) (dCB cInt (aCons (dVar 0) aNil)) (dVar 1)))))) (dRet (dVar 0)))) ⟨slots0 false 3 ds, c⟩ { nx := fun s => R .non s.c, rt := fun d s => R d s.c }
def Ψ__law_are_due (gm : Gm) : DFn := fun ds c R RX => ds.length = 1 ∧ (dRet (dCB cAll (aCons (dFz (dLc [1, 2] (dSeq2 (dVar 0)) (gTp 2 (gsC (fun d s R => R (s.set 1 (.d d))) (gsC (fun d s R => R (s.set 2 (.d d))) gsN))) dYes (dOp oEq (dCB cRepr (aCons (dCall (Ψ__law_fault gm) (fun _ _ => False) (aCons (dVar 1) aNil)) aNil)) (dCB cRepr (aCons (dVar 2) aNil))))) aNil))) ⟨slots0 false 3 ds, c⟩ { nx := fun s => R .non s.c, rt := fun d s => R d s.c }
def Ψ__law_no_number (gm : Gm) : DFn := fun ds c R RX => ds.length = 2 ∧ (dRet (dCallP 0 (Ψ__law_pick gm) RX (aCons (dFz (lLst (aCons (dOp (oI0 fun i j => .int (i - j)) (dVar 1) (dC (.int 1))) (aCons (dOp oAddX (dVar 2) (dC (.int 1))) (aCons (dC .non) (aCons (dC (.bl true)) (aCons (dC (.str "1")) (aCons (dTup (aCons (dC (.int 1)) aNil)) (aCons (dOp (oI0 fun i j => .int (i - j)) (dVar 1) (dC (.int 9))) aNil))))))))) aNil))) ⟨slots0 true 3 ds, c⟩ { nx := fun s => R .non s.c, rt := fun d s => R d s.c }
def Ψ__law_plain_web (gm : Gm) : DFn := fun ds c R RX => ds.length = 2 ∧ (dSeq (dSet 3 (dOp oAddX (dC (.int 1)) (dCallP 0 (Ψ__law_draw gm) RX (aCons (dVar 1) aNil)))) (dSeq (dOwn 4 (lLst aNil)) (dSeq (dIfS (tCm (oI0 fun i j => .bl (decide (i > j))) (dVar 3) (dC (.int 1))) (dFor (dRng (aCons (dCallP 0 (Ψ__law_draw gm) RX (aCons (dOp oAddX (dVar 2) (dC (.int 1))) aNil)) aNil)) (fun d s R => R (s.set 5 (.d d))) (dAppend 4 (dCB cTup (aCons (dCut (dCallP 0 (Ψ__law_shuffled gm) RX (aCons (dFz (lRng (dVar 3))) aNil)) oNo (oSome (dC (.int 2)))) aNil)))) (dNext)) (dFrz 4 (dRet (dTup (aCons (dVar 3) (aCons (dCB cTup (aCons (dVar 4) aNil)) aNil)))))))) ⟨slots0 true 6 ds, c⟩ { nx := fun s => R .non s.c, rt := fun d s => R d s.c }
def Ψ__law_own (gm : Gm) : DFn := fun ds c R RX => ds.length = 3 ∧ (dSeq (dPar 3 4 (pO (lLst aNil)) (pO (lLst aNil))) (dSeq (dFor (dRng (aCons (dCB cLen (aCons (dOp oIx (dVar 0) (dC (.int 1))) aNil)) aNil)) (fun d s R => R (s.set 5 (.d d))) (dSeq (dAsg (dOp oIx (dOp oIx (dVar 0) (dC (.int 1))) (dVar 5)) (gTp 2 (gsC (fun d s R => R (s.set 6 (.d d))) (gsC (fun d s R => R (s.set 7 (.d d))) gsN)))) (dFor (dRng (aCons (dVar 1) aNil)) (fun d s R => R (s.set 8 (.d d))) (dSeq (dAppend 3 (dTup (aCons (dOp oAddX (dOp oMulX (dVar 6) (dVar 1)) (dVar 8)) (aCons (dOp oAddX (dOp oMulX (dVar 7) (dVar 1)) (dOp (oI (fun _ j => 0 < j) fun i j => .int (i % j)) (dCB cInt (aCons (dOp oAddX (dVar 8) (dOp oIx (dVar 2) (dVar 5))) aNil)) (dVar 1))) aNil)))) (dAppend 4 (dTup (aCons (dVar 5) (aCons (dC (.bl false)) aNil)))))))) (dFrz 4 (dFrz 3 (dSeq (dSet 9 (dFz (lLst aNil))) (dSeq (dFor (dRng (aCons (dOp oIx (dVar 0) (dC (.int 0))) aNil)) (fun d s R => R (s.set 10 (.d d))) (dSet 9 (dOp oAddX (dVar 9) (dOp oMulX (dFz (lLst (aCons (dVar 10) aNil))) (dVar 1))))) (dRet (dTup (aCons (dTup (aCons (dOp oMulX (dOp oIx (dVar 0) (dC (.int 0))) (dVar 1)) (aCons (dCB cTup (aCons (dVar 3) aNil)) aNil))) (aCons (dTup (aCons (dCB cTup (aCons (dVar 9) aNil)) (aCons (dCB cTup (aCons (dVar 4) aNil)) aNil))) aNil)))))))))) ⟨slots0 false 11 ds, c⟩ { nx := fun s => R .non s.c, rt := fun d s => R d s.c }
def Ψ__law_lots (gm : Gm) : DFn := fun ds c R RX => ds.length = 2 ∧ (dSeq (dSet 2 (dFz (lRng (dVar 0)))) (dSeq (dFor (dSeq2 (dVar 1)) (gTp 2 (gsC (fun d s R => R (s.set 3 (.d d))) (gsC (fun d s R => R (s.set 4 (.d d))) gsN))) (dSeq (dAsg (dTup (aCons (dCB cMin2 (aCons (dOp oIx (dVar 2) (dVar 3)) (aCons (dOp oIx (dVar 2) (dVar 4)) aNil))) (aCons (dCB cMax2 (aCons (dOp oIx (dVar 2) (dVar 3)) (aCons (dOp oIx (dVar 2) (dVar 4)) aNil))) aNil))) (gTp 2 (gsC (fun d s R => R (s.set 5 (.d d))) (gsC (fun d s R => R (s.set 6 (.d d))) gsN)))) (dSet 2 (dFz (dLc [7] (dSeq2 (dVar 2)) (fun d s R => R (s.set 7 (.d d))) dYes (dIf (tCm oEq (dVar 7) (dVar 6)) (dVar 5) (dVar 7))))))) (dRet (dCB cLen (aCons (dSortSet (dVar 2)) aNil))))) ⟨slots0 false 8 ds, c⟩ { nx := fun s => R .non s.c, rt := fun d s => R d s.c }
def Ψ__law_rounds (gm : Gm) : DFn := fun ds c R RX => ds.length = 3 ∧ (dSeq (dPar 3 4 (pK1 0 (dC (.int 0))) (pD (dVar 1))) (dSeq (dFor (dRng (aCons (dOp oIx (dVar 0) (dC (.int 0))) aNil)) (fun d s R => R (s.set 5 (.d d))) (dFor (dRng (aCons (dCB cLen (aCons (dOp oIx (dVar 0) (dC (.int 1))) aNil)) aNil)) (fun d s R => R (s.set 6 (.d d))) (dSeq (dAsg (dOp oIx (dOp oIx (dVar 0) (dC (.int 1))) (dVar 6)) (gTp 2 (gsC (fun d s R => R (s.set 7 (.d d))) (gsC (fun d s R => R (s.set 8 (.d d))) gsN)))) (dSeq (dIfS ((tAndD (tDInO false 3 (dVar 7)) (tDInO true 3 (dVar 8)))) (dDPut 3 (dVar 8) (dOp oAddX (dDGet 3 (dVar 7)) (dOp oIx (dVar 2) (dVar 6)))) (dNext)) (dIfS ((tAndD (tDInO false 3 (dVar 8)) (tDInO true 3 (dVar 7)))) (dDPut 3 (dVar 7) (dOp (oI0 fun i j => .int (i - j)) (dDGet 3 (dVar 8)) (dOp oIx (dVar 2) (dVar 6)))) (dNext)))))) (dSeq (dFor (dRng (aCons (dCB cLen (aCons (dOp oIx (dVar 0) (dC (.int 1))) aNil)) aNil)) (fun d s R => R (s.set 6 (.d d))) (dSeq (dAsg (dOp oIx (dOp oIx (dVar 0) (dC (.int 1))) (dVar 6)) (gTp 2 (gsC (fun d s R => R (s.set 7 (.d d))) (gsC (fun d s R => R (s.set 8 (.d d))) gsN)))) (dSet 4 (dCall (Ψ__law_gcd gm) RX (aCons (dVar 4) (aCons (dOp (oI0 fun i j => .int (i - j)) (dOp oAddX (dDGet 3 (dVar 7)) (dOp oIx (dVar 2) (dVar 6))) (dDGet 3 (dVar 8))) aNil)))))) (dRet (dVar 4))))) ⟨slots0 false 9 ds, c⟩ { nx := fun s => R .non s.c, rt := fun d s => R d s.c }
def Ψ__law_case (gm : Gm) : DFn := fun ds c R RX => ds.length = 0 ∧ (dSeq (dSet 1 (dOp oAddX (dC (.int 1)) (dCallP 0 (Ψ__law_draw gm) RX (aCons (dC (.int 6)) aNil)))) (dSeq (dSet 2 (dCallP 0 (Ψ__law_plain_web gm) RX (aCons (dCB cMax2 (aCons (dC (.int 1)) (aCons (dOp (oI CDiv fun i j => .int (i / j)) (dC (.int 8)) (dVar 1)) aNil))) (aCons (dOp (oI CDiv fun i j => .int (i / j)) (dC (.int 12)) (dVar 1)) aNil)))) (dSeq (dIfS (tCm oEq (dCallP 0 (Ψ__law_draw gm) RX (aCons (dC (.int 3)) aNil)) (dC (.int 0))) (dSet 2 (dCallP 0 (Ψ__law_plain_web gm) RX (aCons (dC (.int 8)) (aCons (dC (.int 12)) aNil)))) (dNext)) (dSeq (dSet 3 (dCB cTup (aCons (dFz (dLc [4] (dSeq2 (dOp oIx (dVar 2) (dC (.int 1)))) (fun d s R => R (s.set 4 (.d d))) dYes (dCallP 0 (Ψ__law_draw gm) (fun _ _ => False) (aCons (dVar 1) aNil)))) aNil))) (dSeq (dAsg (dTup (aCons (dCallP 0 (Ψ__law_pick gm) RX (aCons (dFz (lLst (aCons (dVar 2) (aCons (dFz (lLst (aCons (dOp oIx (dVar 2) (dC (.int 0))) (aCons (dFz (dLc [4] (dSeq2 (dOp oIx (dVar 2) (dC (.int 1)))) (fun d s R => R (s.set 4 (.d d))) dYes (dFz (lList (aCons (dVar 4) aNil))))) aNil)))) aNil)))) aNil)) (aCons (dCallP 0 (Ψ__law_pick gm) RX (aCons (dFz (lLst (aCons (dVar 3) (aCons (dFz (lList (aCons (dVar 3) aNil))) aNil)))) aNil)) aNil))) (gTp 2 (gsC (fun d s R => R (s.set 5 (.d d))) (gsC (fun d s R => R (s.set 6 (.d d))) gsN)))) (dSeq (dIfS (tCm (oI0 fun i j => .bl (decide (i > j))) (dOp oMulX (dOp oIx (dVar 2) (dC (.int 0))) (dVar 1)) (dC (.int 8))) (dRet (dOp oEq (dCB cRepr (aCons (dFaultLam [5, 1, 6] (fun env c R RX => env.length = 3 ∧ (dCall (Ψ_cover_by gm) RX (aCons (dVar 0) (aCons (dVar 1) (aCons (dVar 2) aNil)))) ⟨env.map .d, c⟩ fun d s => R d s.c) (tags gm)) aNil)) (dCB cRepr (aCons (dTup (aCons (dC (.str "many")) (aCons (dC (.str "places")) (aCons (dOp oMulX (dOp oIx (dVar 2) (dC (.int 0))) (dVar 1)) (aCons (dC (.int 8)) aNil))))) aNil)))) (dNext)) (dSeq (dIfS (tCm (oI0 fun i j => .bl (decide (i > j))) (dOp oMulX (dCB cLen (aCons (dOp oIx (dVar 2) (dC (.int 1))) aNil)) (dVar 1)) (dC (.int 12))) (dRet (dOp oEq (dCB cRepr (aCons (dFaultLam [5, 1, 6] (fun env c R RX => env.length = 3 ∧ (dCall (Ψ_cover_by gm) RX (aCons (dVar 0) (aCons (dVar 1) (aCons (dVar 2) aNil)))) ⟨env.map .d, c⟩ fun d s => R d s.c) (tags gm)) aNil)) (dCB cRepr (aCons (dTup (aCons (dC (.str "many")) (aCons (dC (.str "ties")) (aCons (dOp oMulX (dCB cLen (aCons (dOp oIx (dVar 2) (dC (.int 1))) aNil)) (dVar 1)) (aCons (dC (.int 12)) aNil))))) aNil)))) (dNext)) (dSeq (dAsg (dCall (Ψ_cover_by gm) RX (aCons (dVar 5) (aCons (dVar 1) (aCons (dVar 6) aNil)))) (gTp 2 (gsC (fun d s R => R (s.set 7 (.d d))) (gsC (fun d s R => R (s.set 8 (.d d))) gsN)))) (dSeq (dIfS (tCm oNe (dCB cRepr (aCons (dTup (aCons (dVar 7) (aCons (dVar 8) aNil))) aNil)) (dCB cRepr (aCons (dCall (Ψ__law_own gm) RX (aCons (dVar 2) (aCons (dVar 1) (aCons (dVar 3) aNil)))) aNil))) (dRet (dC (.bl false))) (dNext)) (dSeq (dIfS ((tOrD (tCm (oIsB true) (dCall (Ψ_is_web_map gm) RX (aCons (dVar 7) (aCons (dVar 2) (aCons (dVar 8) aNil)))) (dC (.bl true))) (tCm (oIsB true) (dCall (Ψ_is_cover gm) RX (aCons (dVar 7) (aCons (dVar 2) (aCons (dVar 8) aNil)))) (dC (.bl true))))) (dRet (dC (.bl false))) (dNext)) (dSeq (dIfS (tCm (oI0 fun i j => .bl (decide (i > j))) (dCall (Ψ__law_lots gm) RX (aCons (dOp oIx (dVar 2) (dC (.int 0))) (aCons (dOp oIx (dVar 2) (dC (.int 1))) aNil))) (dC (.int 1))) (dRet (dOp (oI0 fun i j => .bl (decide (i > j))) (dCall (Ψ__law_lots gm) RX (aCons (dOp oIx (dVar 7) (dC (.int 0))) (aCons (dOp oIx (dVar 7) (dC (.int 1))) aNil))) (dC (.int 1)))) (dNext)) (dRet (dOp oEq (dCall (Ψ__law_lots gm) RX (aCons (dOp oIx (dVar 7) (dC (.int 0))) (aCons (dOp oIx (dVar 7) (dC (.int 1))) aNil))) (dCall (Ψ__law_rounds gm) RX (aCons (dVar 2) (aCons (dVar 1) (aCons (dVar 3) aNil))))))))))))))))) ⟨slots0 true 9 ds, c⟩ { nx := fun s => R .non s.c, rt := fun d s => R d s.c }
end K78
namespace K78
open PySem PySem.Spec PyProof.Rows L2 DL
def top (i : Nat) : Stmt := PySem.Challenge.pw_webrooms_k78_covers_by_turns.main.body.getD i (.Pass ⟨0, 0, 0, 0⟩)
abbrev FnP (K : PySem.W.Frag) (x : Str) (st : Stmt) (f : Addr) (fd : FuncData) : Prop := FunD K x x (defArgs st) (defBody st) (defScope st) [] [] f fd
structure Bs (mg : Str → Option Value) : Prop where
  isinstance : mg "isinstance" = none
  int : mg "int" = none
  bool : mg "bool" = none
  str : mg "str" = none
  len : mg "len" = none
  all : mg "all" = none
  any : mg "any" = none
  sum : mg "sum" = none
  tuple : mg "tuple" = none
  list : mg "list" = none
  range : mg "range" = none
  enumerate : mg "enumerate" = none
  zip : mg "zip" = none
  min : mg "min" = none
  max : mg "max" = none
  abs : mg "abs" = none
  sorted : mg "sorted" = none
  set : mg "set" = none
  repr : mg "repr" = none
  dict : mg "dict" = none
section
variable {P : Program} {w : World} {K : PySem.W.Frag} {mg : Str → Option Value} {base : Heap} {f : Addr} {fd : FuncData} {T : List (Addr × Str)} {gm : Gm}
end
/-! ### the pen (as in k82) -/
/-- all but the pen stands -/
def Kp (p : Addr) (H H' : Hp) : Prop := ∀ b o, b ≠ p → H b = some o → H' b = some o
theorem Kp.refl (p : Addr) (H : Hp) : Kp p H H := fun _ _ _ e => e
theorem Kp.tr {p : Addr} {H H1 H2 : Hp} (a : Kp p H H1) (b : Kp p H1 H2) : Kp p H H2 := fun c o n e => b c o n (a c o n e)
theorem Kp.put {p : Addr} {H : Hp} {o : HO} : Kp p H (upd H p o) := fun b u n e => (upd_ne n).trans e
def spDraw : Sp := fun vs H Q _ => ∃ (p L : Addr) (m c : Int), vs = [.ref p, .int m] ∧ 0 < m ∧ m < 1073741824 ∧ PenAt H p L c ∧ c < 1099511627776 ∧
  ∀ (r : Int) (H' : Hp), 0 ≤ r → r < m → PenAt H' p L (c + 1) → Kp p H H' → (∀ b, H b = none → H' b = none) → Q (.int r) H'
abbrev sDraw : Stmt := top 35
theorem scDraw : FnScope ["pen", "many", "cell", "digit", "blend"] ["pen", "many"] (defScope sDraw) := ⟨rfl, rfl, rfl, by decide +kernel, rfl, by decide +kernel, by decide +kernel⟩
theorem sq_put {K : PySem.W.Frag} {H : Hp} {p L : Addr} {kvs : List (Key × V)} {o : HO} {xs : List V} (hp : H p = some (.dK kvs)) (h : SqL K H L xs) : SqL K (upd H p o) L xs := by
  rcases h with h | h
  · have ne : L ≠ p := by
      intro e
      rcases h with h | ⟨u, h⟩
      · rw [e, hp] at h; cases h
      · rw [e, hp] at h; cases h
    rcases h with h | ⟨u, h⟩
    · exact .inl (.inl ((upd_ne ne).trans h))
    · exact .inl (.inr ⟨u, (upd_ne ne).trans h⟩)
  · exact .inr h
/-! what the pen's dict tells, what is put -/
section
variable {H : Hp} {p L : Addr} {a d c f v : Int} {K : PySem.W.Frag}
abbrev penO (L : Addr) (a d c f : Int) : HO := .dK (penL L a d c f)
theorem gC (h : H p = some (penO L a d c f)) : DGet H p (.str "cells") (some (.ref L)) := .inl ⟨_, .inr "cells", .inl h, rfl, rfl⟩
theorem gA (h : H p = some (penO L a d c f)) : DGet H p (.str "at") (some (.int a)) := .inl ⟨_, .inr "at", .inl h, rfl, rfl⟩
theorem gD (h : H p = some (penO L a d c f)) : DGet H p (.str "digits") (some (.int d)) := .inl ⟨_, .inr "digits", .inl h, rfl, rfl⟩
theorem gN (h : H p = some (penO L a d c f)) : DGet H p (.str "count") (some (.int c)) := .inl ⟨_, .inr "count", .inl h, rfl, rfl⟩
theorem gF (h : H p = some (penO L a d c f)) : DGet H p (.str "fold") (some (.int f)) := .inl ⟨_, .inr "fold", .inl h, rfl, rfl⟩
theorem five : (5 : Nat) < sizeLine := by decide
theorem pA (h : H p = some (penO L a d c f)) : DPut H p (.str "at") (.int v) (upd H p (penO L v d c f)) := .inl ⟨_, .inr "at", h, rfl, five, rfl⟩
theorem pD (h : H p = some (penO L a d c f)) : DPut H p (.str "digits") (.int v) (upd H p (penO L a v c f)) := .inl ⟨_, .inr "digits", h, rfl, five, rfl⟩
theorem pN (h : H p = some (penO L a d c f)) : DPut H p (.str "count") (.int v) (upd H p (penO L a d v f)) := .inl ⟨_, .inr "count", h, rfl, five, rfl⟩
theorem pF (h : H p = some (penO L a d c f)) : DPut H p (.str "fold") (.int v) (upd H p (penO L a d c v)) := .inl ⟨_, .inr "fold", h, rfl, five, rfl⟩
end
section
variable {P : Program} {w : World} {K : PySem.W.Frag} {mg : Str → Option Value} {base : Heap} {f : Addr} {fd : FuncData}
theorem ok_draw0 (F : FnP K "_law_draw" sDraw f fd) (mi : mg "int" = none) (ml : mg "len" = none) : FnOk P w K mg base (L2.CX P w) 1 f fd ["pen", "many"] spDraw := by
  refine F.ok scDraw (fun vs H Q E h => ?_) (fun cdv A outer s H vs Q E hr h => ?_)
  · obtain ⟨p, L, m, c, rfl, _⟩ := h
    rfl
  · obtain ⟨p, L, m, c, rfl, m0, m1, ⟨ns, at_, dg, cn, fo, hp, hLL, a0, a1, hn, d0, c0, c1, f0, f1⟩, hc, q⟩ := h
    have hL : SqL K H L (ns.map V.int) := .inl (.inl hLL)
    have Lp : L ≠ p := fun z => by rw [z, hp] at hLL; cases hLL
    have hu := hu_of hr
    refine ⟨_, PSs.nox (pss_cons (ps_dput hu (pv 0) pe_str (pe_op op_add (pe_dget hu (pv 0) pe_str (fun _ _ => rfl)) pe_int) rfl)
      (C8.pss_cut (ps_if (PW.pt (pw_and (pt_cmpR op_eq (pe_dget hu (pv 0) pe_str (fun _ _ => rfl)) pe_int (nomark _)) (pw_and1 (pt_cmpR op_lt (pe_dget hu (pv 0) pe_str (fun _ _ => rfl)) (pe_callB call_len_seq (by rfl) ml PySem.boot_len (pa_cons (pe_dget hu (pv 0) pe_str (fun _ _ => rfl)) pa_nil)) (nomark _)))))
        (pss_cons (ps_set (i := 2) scDraw.nd rfl (.inl rfl) (pe_ix ix_list (pe_dget hu (pv 0) pe_str (fun _ _ => rfl)) (pe_dget hu (pv 0) pe_str (fun _ _ => rfl)) (fun _ _ => rfl)))
        (pss_cons (ps_dput hu (pv 0) pe_str (pe_op op_add (pe_dget hu (pv 0) pe_str (fun _ _ => rfl)) pe_int) rfl)
        (pss_one (ps_if (pt_cmpR op_ge (pv 2) (pe_op op_pow pe_int pe_int) (nomark _))
          (pss_one (ps_dput hu (pv 0) pe_str (pe_op op_sub (pv 2) (pe_op op_pow pe_int pe_int)) rfl))
          (pss_one (ps_dput hu (pv 0) pe_str (pe_op op_mod (pe_callTy call_int1 (by rfl) mi (by decide +kernel) (pa_cons (pe_op op_add (pe_op op_mul (pe_dget hu (pv 0) pe_str (fun _ _ => rfl)) pe_int) (pv 2)) pa_nil)) pe_int) rfl))))))
        pss_nil)
      (pss_cons (ps_if (pt_cmpR op_gt (pe_dget hu (pv 0) pe_str (fun _ _ => rfl)) pe_int (nomark _))
        (pss_cons (ps_set (i := 3) scDraw.nd rfl (.inl rfl) (pe_op op_mod (pe_callTy call_int1 (by rfl) mi (by decide +kernel) (pa_cons (pe_dget hu (pv 0) pe_str (fun _ _ => rfl)) pa_nil)) (pv 1)))
        (pss_cons (ps_dput hu (pv 0) pe_str (pe_op op_fdiv (pe_dget hu (pv 0) pe_str (fun _ _ => rfl)) (pv 1)) rfl)
        (pss_one (ps_ret (pv 3)))))
        pss_nil)
      (pss_cons (ps_set (i := 4) scDraw.nd rfl (.inl rfl) (pe_op op_add (pe_op op_add (pe_dget hu (pv 0) pe_str (fun _ _ => rfl)) (pe_op op_mul (pe_dget hu (pv 0) pe_str (fun _ _ => rfl)) pe_int)) pe_int))
      (pss_one (ps_ret (pe_op op_mod (pe_op op_fdiv (pe_callTy call_int1 (by rfl) mi (by decide +kernel) (pa_cons (pe_op op_mod (pe_op op_pow (pv 4) pe_int) pe_int) pa_nil)) pe_int) (pv 1)))))))), ?_⟩
    -- count
    refine ⟨_, rfl, p, .int cn, rfl, gN hp, cn, 1, rfl, rfl, _, rfl, p, _, rfl, pN hp, ?_⟩
    refine ⟨fun σ H' => ∃ (a d f : Int) (y2 : Option V), σ = [some (.ref p), some (.int m), y2, none, none] ∧ H' = upd H p (penO L a d (cn + 1) f) ∧ 0 ≤ a ∧ a ≤ ns.length ∧ 0 ≤ d ∧ 0 ≤ f ∧ f < 2147483477, ?_, ?_⟩
    · -- if digits == 0 and at < len(cells)
      have h1 : (upd H p (penO L at_ dg (cn + 1) fo)) p = some (penO L at_ dg (cn + 1) fo) := upd_same
      refine ⟨_, rfl, p, _, rfl, gD h1, rfl, _, rfl, ite2 (fun _ => ?_) (fun _ => ?_)⟩
      · refine ⟨_, rfl, p, _, rfl, gA h1, _, rfl, p, _, rfl, gC h1, L, _, rfl, .inl (sq_put hp hL), at_, _, rfl, rfl, _, rfl, ite2 (fun hlt => ?_) (fun _ => ?_)⟩
        · have hlt : at_ < (ns.length : Int) := by
            have := of_decide_eq_true hlt
            rwa [List.length_map] at this
          obtain ⟨j, rfl⟩ : ∃ j : Nat, at_ = (j : Int) := ⟨at_.toNat, by omega⟩
          have hj : j < ns.length := by omega
          have g : (ns.map V.int)[j]? = some (.int ns[j]) := by
            rw [List.getElem?_map, List.getElem?_eq_getElem hj]
            rfl
          -- cell = cells[at]; at = at + 1
          refine ⟨_, rfl, p, _, rfl, gC h1, _, rfl, p, _, rfl, gA h1, L, _, _, _, rfl, rfl, sq_put hp hL, atI_nat g, ?_⟩
          refine ⟨_, rfl, p, _, rfl, gA h1, _, 1, rfl, rfl, _, rfl, p, _, rfl, pA h1, ?_⟩
          have h2 : (upd (upd H p (penO L j dg (cn + 1) fo)) p (penO L (j + 1) dg (cn + 1) fo)) p = some (penO L (j + 1) dg (cn + 1) fo) := upd_same
          refine ⟨_, rfl, 10, 18, rfl, rfl, ⟨by decide, by decide, by decide⟩, _, _, rfl, rfl, _, rfl, ite2 (fun hge => ?_) (fun _ => ?_)⟩
          · have hge := of_decide_eq_true hge
            refine ⟨_, rfl, 10, 18, rfl, rfl, ⟨by decide, by decide, by decide⟩, _, _, rfl, rfl, _, rfl, p, _, rfl, pD h2, ?_⟩
            exact ⟨_, _, _, _, rfl, by rw [upd_upd, upd_upd], by omega, by omega, by omega, f0, f1⟩
          · refine ⟨_, rfl, p, _, rfl, gF h2, _, 40993, rfl, rfl, .inl (by omega), _, rfl, _, _, rfl, rfl, .inl ⟨_, rfl, _, 2147483477, rfl, rfl, (by show (0 : Int) < 2147483477; decide), _, rfl, p, _, rfl, pF h2, ?_⟩⟩
            exact ⟨_, _, _, _, rfl, by rw [upd_upd, upd_upd], by omega, by omega, d0, Int.emod_nonneg _ (by decide), Int.emod_lt_of_pos _ (by decide)⟩
        · exact ⟨_, _, _, _, rfl, rfl, a0, a1, d0, f0, f1⟩
      · exact ⟨_, _, _, _, rfl, rfl, a0, a1, d0, f0, f1⟩
    · rintro σ' H' ⟨a, d, f, y2, rfl, rfl, b0, b1, e0, g0, g1⟩
      have h1 : (upd H p (penO L a d (cn + 1) f)) p = some (penO L a d (cn + 1) f) := upd_same
      have fr : ∀ {o : HO}, (∀ b, H b = none → (upd H p o) b = none) := fun {o} b hb => (upd_ne (fun e => by rw [e, hp] at hb; cases hb)).trans hb
      -- if digits > 0
      refine ⟨_, rfl, p, _, rfl, gD h1, _, 0, rfl, rfl, _, rfl, ite2 (fun _ => ?_) (fun _ => ?_)⟩
      · refine ⟨_, rfl, p, _, rfl, gD h1, .inl ⟨_, rfl, _, rfl, _, m, rfl, rfl, m0, ?_⟩⟩
        refine ⟨_, rfl, p, _, rfl, gD h1, _, rfl, _, m, rfl, rfl, ⟨m0, m1⟩, _, rfl, p, _, rfl, pD h1, _, rfl, ?_⟩
        refine q _ _ (Int.emod_nonneg _ (by omega)) (Int.emod_lt_of_pos _ m0) ⟨ns, a, _, _, f, upd_same, (upd_ne Lp).trans ((upd_ne Lp).trans hLL), b0, b1, hn, Int.ediv_nonneg e0 (by omega), by omega, by omega, g0, g1⟩ (Kp.put.tr Kp.put) ?_
        rw [upd_upd]
        exact fr
      · refine ⟨_, rfl, p, _, rfl, gF h1, _, rfl, p, _, rfl, gN h1, _, 7873, rfl, rfl, .inl (by omega), _, _, rfl, rfl, _, 71, rfl, rfl, ?_⟩
        refine ⟨_, rfl, _, 29, rfl, rfl, ⟨by decide, by decide, by omega⟩, _, 2305843009213693951, rfl, rfl, (by show (0 : Int) < 2305843009213693951; decide), .inl ⟨_, rfl, _, 128, rfl, rfl, ⟨by decide, by decide⟩, _, rfl, _, m, rfl, rfl, m0, ?_⟩⟩
        exact q _ _ (Int.emod_nonneg _ (by omega)) (Int.emod_lt_of_pos _ m0) ⟨ns, a, d, _, f, h1, (upd_ne Lp).trans hLL, b0, b1, hn, e0, by omega, by omega, g0, g1⟩ Kp.put fr
theorem sqL_ex {K : PySem.W.Frag} {H H' : Hp} {L : Addr} {xs : List V} (e : Ex H H') (h : SqL K H L xs) : SqL K H' L xs := by
  rcases h with (h | ⟨u, h⟩) | h
  · exact .inl (.inl (e _ _ h))
  · exact .inl (.inr ⟨u, e _ _ h⟩)
  · exact .inr h
theorem sq_new {K : PySem.W.Frag} {H : Hp} {p L : Addr} {o : HO} {xs : List V} (hp : H p = none) (h : SqL K H L xs) : SqL K (upd H p o) L xs := sqL_ex (ex_new hp) h

abbrev sPen : Stmt := top 34
theorem scPen : FnScope ["script", "fold", "cell"] ["script"] (defScope sPen) := ⟨rfl, rfl, rfl, by decide +kernel, rfl, by decide +kernel, by decide +kernel⟩
def spPen (K : PySem.W.Frag) : Sp := fun vs H Q _ => ∃ (a : Addr) (ns : List Int), vs = [.ref a] ∧ SqL K H a (ns.map V.int) ∧ ns.length ≤ 63 ∧ ∀ p L H', H p = none → Ex H H' → PenAt H' p L 0 → Q (.ref p) H'
theorem ok_pen (B : Bs mg) (F : FnP K "_law_pen" sPen f fd) : FnOk P w K mg base (L2.CX P w) 1 f fd ["script"] (spPen K) := by
  have S := scPen
  refine F.ok scPen (fun vs H Q E h => ?_) (fun cdv A outer s H vs Q E hr h => ?_)
  · obtain ⟨a, ns, rfl, _⟩ := h
    rfl
  · obtain ⟨a, ns, rfl, ha, hn, q⟩ := h
    refine ⟨_, PSs.nox (pss_cons (ps_set (i := 1) S.nd rfl (.inl rfl) pe_int)
      (pss_cons (ps_for PassesOwn.never rfl (pi_list (pv 0)) (pg_name (i := 2) S.nd rfl (.inl rfl))
        (pss_one (ps_set (i := 1) S.nd rfl (.inl rfl) (pe_op op_mod (pe_callTy call_int1 (by rfl) B.int (by decide +kernel) (pa_cons (pe_op op_add (pe_op op_mul (pv 1) pe_int) (pv 2)) pa_nil)) pe_int))))
      (pss_one (ps_ret (pe_disp (pps_cons pe_str (pe_callTy call_list_of (by rfl) B.list boot_lst (pa_cons (pv 0) pa_nil)) (pps_cons pe_str pe_int (pps_cons pe_str pe_int (pps_cons pe_str pe_int (pps_cons pe_str (pv 1) pps_nil))))) rfl rfl (by simp) (by decide)))))), ?_⟩
    refine ⟨_, rfl, _, rfl, ⟨_, ha⟩, ?_⟩
    refine for_list (fun i σ H' => H' = H ∧ ∃ (m : Int) (y : Option V), σ = [some (.ref a), some (.int m), y] ∧ 0 ≤ m ∧ m < 2147483477) ⟨rfl, 0, none, rfl, by decide, by decide⟩ (fun _ _ _ _ e => by rw [e.1]; exact ha) ?_ ?_
    · rintro i x σ _ hx ⟨rfl, m, y, rfl, m0, m1⟩
      rw [List.getElem?_map] at hx
      obtain ⟨z, _, rfl⟩ := Option.map_eq_some_iff.mp hx
      refine ⟨_, rfl, _, 97, rfl, rfl, .inl (by omega), _, rfl, _, _, rfl, rfl, .inl ⟨_, rfl, _, 999999733, rfl, rfl, (by show (0 : Int) < 999999733; decide), ?_⟩⟩
      exact ⟨rfl, _, _, rfl, Int.emod_nonneg _ (by decide), by have := Int.emod_lt_of_pos ((m * 97 + z)) (show (0 : Int) < 999999733 by decide); omega⟩
    · rintro σ H2 ⟨e, m, y, rfl, m0, m1⟩
      subst e
      intro p hp
      refine ⟨_, rfl, _, _, rfl, .inl (sq_new hp ha), fun l hl => ?_⟩
      have lp : p ≠ l := fun z => by rw [z, upd_at] at hl; cases hl
      refine ⟨_, rfl, (upd_ne lp).trans upd_at, [(.inr "cells", .ref l), (.inr "at", .int 0), (.inr "digits", .int 0), (.inr "count", .int 0), (.inr "fold", .int m)], rfl, (by simp), ?_⟩
      have lh : H2 l = none := (upd_ne (Ne.symm lp)).symm.trans hl
      refine q p l _ hp ?_ ⟨ns, 0, 0, 0, m, upd_at, (upd_ne (Ne.symm lp)).trans upd_at, by decide, by omega, hn, by decide, by decide, by decide, m0, m1⟩
      intro b o e
      have b1 : b ≠ p := fun z => by rw [z, hp] at e; cases e
      have b2 : b ≠ l := fun z => by rw [z, lh] at e; cases e
      exact (upd_ne b1).trans ((upd_ne b2).trans ((upd_ne b1).trans e))


def Ok__law_draw (P : Program) (w : World) (K : PySem.W.Frag) (mg : Str → Option Value) (base : Heap) (T : List (Addr × Str)) (gm : Gm) : Prop := ∃ f fd, Gd.FnG P w K mg base (L2.CX P w) 1 f fd ["pen", "many"] (spF true T (Ψ__law_draw gm)) ∧ FnP K "_law_draw" sDraw f fd ∧ mg "_law_draw" = some (.ref f)
theorem ok__law_draw {T : List (Addr × Str)} {gm : Gm} (B : Bs mg) (Fd : FnP K "_law_draw" sDraw f fd) (gl : mg "_law_draw" = some (.ref f)) : Ok__law_draw P w K mg base T gm := by
  refine ⟨f, fd, (Gd.FnG.of (ok_draw0 Fd B.int B.len)).imp fun vs H Q E h => ?_, Fd, gl⟩
  obtain ⟨M, us, ds, c, R, RX, rfl, h2, ht, rfl, h4, h5, ⟨m, rfl, m0, m1, c0, c1, hR⟩, h7, _⟩ := h
  obtain ⟨p, L, ep⟩ : ∃ p L, M.pen = some (p, L) := by
    cases q : M.pen with
    | none => rw [q] at h2; cases h2
    | some pl => exact ⟨pl.1, pl.2, rfl⟩
  obtain ⟨pa, gp⟩ := h4.pen p L ep
  cases h5 with
  | cons a t =>
    cases a
    cases t
    refine ⟨p, L, m, c, by rw [ep]; rfl, m0, m1, pa, by omega, fun r H' r0 r1 pa' kp old => ?_⟩
    refine h7 _ _ _ M.G0 H' (hR r r0 r1) ⟨Ex.rf _, fun b o e => kp b o (fun z => by rw [z, gp] at e; cases e) (h4.ex b o e), fun b hb hn => ?_, fun p' L' e => ?_, ?_⟩ (.int r)
    · have nb := hn.1 p L ep
      cases q : M.H0 b with
      | none => exact absurd q hb
      | some o => exact ⟨kp b o nb q, rfl⟩
    · rw [ep] at e
      cases e
      exact ⟨pa', gp⟩
    · exact ⟨tabs_keep h4.tab.1 (fun b ps e => kp b _ (fun z => by
        obtain ⟨ns, a1, a2, a3, a4, a5, _⟩ := pa
        rw [z, a5] at e
        cases e) e) (Ex.rf _), h4.tab.2⟩
end

section
variable {P : Program} {w : World} {K : PySem.W.Frag} {mg : Str → Option Value} {base : Heap} {f : Addr} {fd : FuncData} {T : List (Addr × Str)} {gm : Gm}
theorem sc_in_tuples : FnScope ["value", "item"] ["value"] (defScope (top 11)) := ⟨rfl, rfl, rfl, by decide +kernel, rfl, by decide +kernel, by decide +kernel⟩
theorem ok_in_tuples0 (B : Bs mg) (Fd : FnP K "in_tuples" (top 11) f fd) (gl : mg "in_tuples" = some (.ref f)) : ∀ n : Nat, Gd.FnG P w K mg base (L2.CX P w) n f fd ["value"] (spF false [] (Φt n))
  | 0 => by
    have no : ∀ vs H Q E, ¬ spF false [] (Φt 0) vs H Q E := fun vs H Q E h => by
      obtain ⟨M, us, ds, c, R, RX, _, _, _, _, _, _, ⟨d, _, h, _⟩, _⟩ := h
      unfold dep at h
      exact absurd h (by decide)
    exact ⟨fun vs H Q E h => (no _ _ _ _ h).elim, fun A o s H a us vs Q E hr hg e0 hb hv h => (no _ _ _ _ h).elim⟩
  | n + 1 => by
    have IH := ok_in_tuples0 B Fd gl n
    have S := sc_in_tuples
    refine fn_of Fd S (fun ds c R RX h => ?_) (fun cdv A outer s H E hr hG M RX hH hp ht ni hE => ?_)
    · obtain ⟨d, rfl, _⟩ := h
      rfl
    · refine ⟨_, s_cons (s_if (t_not (t_val (e_isT B.isinstance (a_cons (e_var 0 (fun _ => pv 0)) (a_cons (e_tup (a_cons (e_ty B.tuple boot_tup (fun _ => rfl)) (a_cons (e_ty B.list boot_lst (fun _ => rfl)) a_nil))) a_nil)) (fun _ => rfl)))) (s_one (s_ret (e_var 0 (fun _ => pv 0)))) s_nil)
        (s_one (s_ret (e_tuple B.tuple (a_cons (e_fz (l_lc (own := [("item", 1)]) (fun _ => blkOk_by (own := [("item", 1)]) (N := ["value", "item"]) (sc := defScope (top 11)) (by decide +kernel)) (fun _ => S.nd) (id_seqV 0 (fun _ => pv 0)) (g_name 1 (fun _ => pg_name (i := 1) S.nd rfl (.inl rfl))) ts_nil
          (e_call (RX := fun _ _ => False) IH (Nat.le_refl _) gl Fd.kp (Fd.bindsN fun _ _ _ _ _ _ us hl => match us, hl with | [_], _ => rfl) (fun _ _ _ _ _ _ z => z.elim) ni (a_cons (e_var 1 (fun _ => pv 1)) a_nil) (fun _ => rfl)))) a_nil) (fun _ => rfl)))), fun ds c R h => ?_⟩
      obtain ⟨d, rfl, hd, h⟩ := h
      have yes : ∀ x : List D, depL n x = true → x.length ≤ 1000 → (tups d = .tup (tupsL x)) → lcL [1] (fun d s R => R (s.set 1 (.d d))) dYes (dCall (Φt n) (fun _ _ => False) (aCons (dVar 1) aNil)) (fun ds s1 => R (.tup ds) s1.c) [.d d, .no] [] x c := fun x hx hl he => by
        refine lc_tups x [] (by simp; omega) hx ?_
        rw [he] at h
        exact h
      cases d with
      | lst x =>
        unfold dep at hd
        rw [Bool.and_eq_true] at hd
        have := yes x hd.2 (of_decide_eq_true hd.1) rfl
        exact ⟨by decide, ⟨["tuple", "list"], rfl, by decide, rfl, this⟩⟩
      | tup x =>
        unfold dep at hd
        rw [Bool.and_eq_true] at hd
        have := yes x hd.2 (of_decide_eq_true hd.1) rfl
        exact ⟨by decide, ⟨["tuple", "list"], rfl, by decide, rfl, this⟩⟩
      | _ =>
        first
          | exact ⟨by decide, ⟨["tuple", "list"], rfl, by decide, h⟩⟩
          | (unfold dep at hd; cases hd)
def Ok_in_tuples (P : Program) (w : World) (K : PySem.W.Frag) (mg : Str → Option Value) (base : Heap) (T : List (Addr × Str)) (gm : Gm) : Prop := ∃ f fd, Gd.FnG P w K mg base (L2.CX P w) 12 f fd ["value"] (spF false [] (Ψ_in_tuples gm)) ∧ FnP K "in_tuples" (top 11) f fd ∧ mg "in_tuples" = some (.ref f)
theorem ok_in_tuples (B : Bs mg) (Fd : FnP K "in_tuples" (top 11) f fd) (gl : mg "in_tuples" = some (.ref f)) : Ok_in_tuples P w K mg base T gm := ⟨f, fd, ok_in_tuples0 B Fd gl 12, Fd, gl⟩

theorem sc__law_fault : FnScope ["work", "fault"] ["work"] (defScope (top 39)) := ⟨rfl, rfl, rfl, by decide +kernel, rfl, by decide +kernel, by decide +kernel⟩
def Ok__law_fault (P : Program) (w : World) (K : PySem.W.Frag) (mg : Str → Option Value) (base : Heap) (T : List (Addr × Str)) (gm : Gm) : Prop := ∃ f fd, Gd.FnG P w K mg base (L2.CX P w) 40 f fd ["work"] (spF false [] (Ψ__law_fault gm)) ∧ FnP K "_law_fault" (top 39) f fd ∧ mg "_law_fault" = some (.ref f) ∧ Gd.FnG P w K mg base (L2.CX P w) 40 f fd ["work"] (spF false [] (Φ_fault P w K mg base 39 (tags gm)))
theorem fault_is (P : Program) (w : World) (K : PySem.W.Frag) (mg : Str → Option Value) (base : Heap) (h : ∀ d Ψ, gm.clo d Ψ → CloD P w K mg base 39 d Ψ) (ds : List D) (c : Int) (R : D → Int → Prop) (RX : DX → Int → Prop) (x : Ψ__law_fault gm ds c R RX) : Φ_fault P w K mg base 39 (tags gm) ds c R RX := by
  obtain ⟨d, env, Ψ, e, hf, hc, hp⟩ := x
  exact ⟨d, env, Ψ, e, hf, h d Ψ hc, hp⟩
theorem ok__law_fault (Fd : FnP K "_law_fault" (top 39) f fd) (TG : TagsOk K (tags gm)) (gl_BadLot : mg "BadLot" = some (.ref (gm.a "BadLot"))) (xf_BadLot : XfC K (gm.a "BadLot")) (no_BadLot : ∀ f ∈ (["lot"] : List Str), PySem.W.findIn K (.ref (gm.a "BadLot")) f = some none) (gl_BadNumber : mg "BadNumber" = some (.ref (gm.a "BadNumber"))) (xf_BadNumber : XfC K (gm.a "BadNumber")) (no_BadNumber : ∀ f ∈ (["what", "number"] : List Str), PySem.W.findIn K (.ref (gm.a "BadNumber")) f = some none) (gl_BadRow : mg "BadRow" = some (.ref (gm.a "BadRow"))) (xf_BadRow : XfC K (gm.a "BadRow")) (no_BadRow : ∀ f ∈ (["row"] : List Str), PySem.W.findIn K (.ref (gm.a "BadRow")) f = some none) (gl_BadTable : mg "BadTable" = some (.ref (gm.a "BadTable"))) (xf_BadTable : XfC K (gm.a "BadTable")) (no_BadTable : ∀ f ∈ (["table"] : List Str), PySem.W.findIn K (.ref (gm.a "BadTable")) f = some none) (gl_BadWeb : mg "BadWeb" = some (.ref (gm.a "BadWeb"))) (xf_BadWeb : XfC K (gm.a "BadWeb")) (no_BadWeb : ∀ f ∈ (["what", "value"] : List Str), PySem.W.findIn K (.ref (gm.a "BadWeb")) f = some none) (gl_TooMany : mg "TooMany" = some (.ref (gm.a "TooMany"))) (xf_TooMany : XfC K (gm.a "TooMany")) (no_TooMany : ∀ f ∈ (["what", "many", "limit"] : List Str), PySem.W.findIn K (.ref (gm.a "TooMany")) f = some none) (gl_Unlike : mg "Unlike" = some (.ref (gm.a "Unlike"))) (xf_Unlike : XfC K (gm.a "Unlike")) (no_Unlike : ∀ f ∈ (["what"] : List Str), PySem.W.findIn K (.ref (gm.a "Unlike")) f = some none) (gl : mg "_law_fault" = some (.ref f)) (hclo : ∀ d Ψ, gm.clo d Ψ → CloD P w K mg base 39 d Ψ) : Ok__law_fault P w K mg base T gm := by
  have S := sc__law_fault
  suffices O0 : Gd.FnG P w K mg base (L2.CX P w) 40 f fd ["work"] (spF false [] (Φ_fault P w K mg base 39 (tags gm))) from ⟨f, fd, O0.imp fun vs H Q E h => spF_imp (fault_is P w K mg base hclo) h, Fd, gl, O0⟩
  refine ok_fault Fd S TG fun X e1 e2 e3 e4 e5 hN hsc hs hf hr hG Wout tk => ?_
  subst e1 e2 e3 e4 e5
  have hi : X.N[1]? = some ("fault" : Str) := by rw [hN]; rfl
  have hk : X.env.kindOf ("fault" : Str) = some .local := by show X.env.scope.names.lookup _ = _; rw [hsc]; rfl
  have hN0 : X.N.Nodup := by rw [hN]; exact S.nd
  exact pss_cons (TryR.ps_tryR (i := 1) (n := "fault") (tb := tWork X.prog X.w X.K X.mg X.base 39) (l := (tags gm).map (clOf X.K)) hN0 hi hk hs hf tk (fun W pn xe tk' => pss_one (ps_expr (Clo.pe_cloW (X := X.tr pn xe) (i := 0) tk' hr hG (by show X.N[0]? = _; rw [hN]; rfl) (by show Vis X.env.scope _; rw [hsc]; exact Or.inl rfl)))) (.more (k := clOf X.K ("lot", gm.a "BadLot", ["lot"])) ⟨by show X.env.scope.names.lookup _ = _; rw [hsc]; rfl, by decide, .inl gl_BadLot⟩ (fun a oe cls d pn hz hf2 => pe_tup (pa_cons pe_str (pa_cons (pe_xf (X := X) xf_BadLot (by exact no_BadLot "lot" (by simp)) hz hf2 (pv 1 (by show X.N[1]? = _; rw [hN]; rfl) (by show Vis X.env.scope _; rw [hsc]; exact Or.inl rfl))) pa_nil))) (.more (k := clOf X.K ("number", gm.a "BadNumber", ["what", "number"])) ⟨by show X.env.scope.names.lookup _ = _; rw [hsc]; rfl, by decide, .inl gl_BadNumber⟩ (fun a oe cls d pn hz hf2 => pe_tup (pa_cons pe_str (pa_cons (pe_xf (X := X) xf_BadNumber (by exact no_BadNumber "what" (by simp)) hz hf2 (pv 1 (by show X.N[1]? = _; rw [hN]; rfl) (by show Vis X.env.scope _; rw [hsc]; exact Or.inl rfl))) (pa_cons (pe_xf (X := X) xf_BadNumber (by exact no_BadNumber "number" (by simp)) hz hf2 (pv 1 (by show X.N[1]? = _; rw [hN]; rfl) (by show Vis X.env.scope _; rw [hsc]; exact Or.inl rfl))) pa_nil)))) (.more (k := clOf X.K ("row", gm.a "BadRow", ["row"])) ⟨by show X.env.scope.names.lookup _ = _; rw [hsc]; rfl, by decide, .inl gl_BadRow⟩ (fun a oe cls d pn hz hf2 => pe_tup (pa_cons pe_str (pa_cons (pe_xf (X := X) xf_BadRow (by exact no_BadRow "row" (by simp)) hz hf2 (pv 1 (by show X.N[1]? = _; rw [hN]; rfl) (by show Vis X.env.scope _; rw [hsc]; exact Or.inl rfl))) pa_nil))) (.more (k := clOf X.K ("table", gm.a "BadTable", ["table"])) ⟨by show X.env.scope.names.lookup _ = _; rw [hsc]; rfl, by decide, .inl gl_BadTable⟩ (fun a oe cls d pn hz hf2 => pe_tup (pa_cons pe_str (pa_cons (pe_xf (X := X) xf_BadTable (by exact no_BadTable "table" (by simp)) hz hf2 (pv 1 (by show X.N[1]? = _; rw [hN]; rfl) (by show Vis X.env.scope _; rw [hsc]; exact Or.inl rfl))) pa_nil))) (.more (k := clOf X.K ("web", gm.a "BadWeb", ["what", "value"])) ⟨by show X.env.scope.names.lookup _ = _; rw [hsc]; rfl, by decide, .inl gl_BadWeb⟩ (fun a oe cls d pn hz hf2 => pe_tup (pa_cons pe_str (pa_cons (pe_xf (X := X) xf_BadWeb (by exact no_BadWeb "what" (by simp)) hz hf2 (pv 1 (by show X.N[1]? = _; rw [hN]; rfl) (by show Vis X.env.scope _; rw [hsc]; exact Or.inl rfl))) (pa_cons (pe_xf (X := X) xf_BadWeb (by exact no_BadWeb "value" (by simp)) hz hf2 (pv 1 (by show X.N[1]? = _; rw [hN]; rfl) (by show Vis X.env.scope _; rw [hsc]; exact Or.inl rfl))) pa_nil)))) (.more (k := clOf X.K ("many", gm.a "TooMany", ["what", "many", "limit"])) ⟨by show X.env.scope.names.lookup _ = _; rw [hsc]; rfl, by decide, .inl gl_TooMany⟩ (fun a oe cls d pn hz hf2 => pe_tup (pa_cons pe_str (pa_cons (pe_xf (X := X) xf_TooMany (by exact no_TooMany "what" (by simp)) hz hf2 (pv 1 (by show X.N[1]? = _; rw [hN]; rfl) (by show Vis X.env.scope _; rw [hsc]; exact Or.inl rfl))) (pa_cons (pe_xf (X := X) xf_TooMany (by exact no_TooMany "many" (by simp)) hz hf2 (pv 1 (by show X.N[1]? = _; rw [hN]; rfl) (by show Vis X.env.scope _; rw [hsc]; exact Or.inl rfl))) (pa_cons (pe_xf (X := X) xf_TooMany (by exact no_TooMany "limit" (by simp)) hz hf2 (pv 1 (by show X.N[1]? = _; rw [hN]; rfl) (by show Vis X.env.scope _; rw [hsc]; exact Or.inl rfl))) pa_nil))))) (.more (k := clOf X.K ("unlike", gm.a "Unlike", ["what"])) ⟨by show X.env.scope.names.lookup _ = _; rw [hsc]; rfl, by decide, .inl gl_Unlike⟩ (fun a oe cls d pn hz hf2 => pe_tup (pa_cons pe_str (pa_cons (pe_xf (X := X) xf_Unlike (by exact no_Unlike "what" (by simp)) hz hf2 (pv 1 (by show X.N[1]? = _; rw [hN]; rfl) (by show Vis X.env.scope _; rw [hsc]; exact Or.inl rfl))) pa_nil))) .none)))))))) (pss_one (ps_ret pe_non))

theorem sc_is_whole : FnScope ["value"] ["value"] (defScope (top 10)) := ⟨rfl, rfl, rfl, by decide +kernel, rfl, by decide +kernel, by decide +kernel⟩
def Ok_is_whole (P : Program) (w : World) (K : PySem.W.Frag) (mg : Str → Option Value) (base : Heap) (T : List (Addr × Str)) (gm : Gm) : Prop := ∃ f fd, Gd.FnG P w K mg base (L2.CX P w) 1 f fd ["value"] (spF false [] (Ψ_is_whole gm)) ∧ FnP K "is_whole" (top 10) f fd ∧ mg "is_whole" = some (.ref f)
theorem ok_is_whole (B : Bs mg) (Sy : Sys K) (Fd : FnP K "is_whole" (top 10) f fd) (gl : mg "is_whole" = some (.ref f)) : Ok_is_whole P w K mg base T gm := by
  have S := sc_is_whole
  refine ⟨f, fd, fn_of Fd S (fun ds c R RX h => by have := h.1; simp [this]) (fun cdv A outer s H E hr hG M RX hH hp ht ni hE => ?_), Fd, gl⟩
  exact ⟨_, s_one (s_ret ((e_and (e_isi B.isinstance (a_cons (e_var 0 (fun _ => pv 0)) (a_cons (e_ty B.int boot_intD (fun _ => rfl)) a_nil)) (fun _ => rfl)) (e_one (e_not (e_isi B.isinstance (a_cons (e_var 0 (fun _ => pv 0)) (a_cons (e_ty B.bool boot_boolD (fun _ => rfl)) a_nil)) (fun _ => rfl))))))), fun ds c R h => h.2⟩
theorem sc_is_tuple_of : FnScope ["value", "many"] ["value", "many"] (defScope (top 12)) := ⟨rfl, rfl, rfl, by decide +kernel, rfl, by decide +kernel, by decide +kernel⟩
def Ok_is_tuple_of (P : Program) (w : World) (K : PySem.W.Frag) (mg : Str → Option Value) (base : Heap) (T : List (Addr × Str)) (gm : Gm) : Prop := ∃ f fd, Gd.FnG P w K mg base (L2.CX P w) 1 f fd ["value", "many"] (spF false [] (Ψ_is_tuple_of gm)) ∧ FnP K "is_tuple_of" (top 12) f fd ∧ mg "is_tuple_of" = some (.ref f)
theorem ok_is_tuple_of (B : Bs mg) (Sy : Sys K) (Fd : FnP K "is_tuple_of" (top 12) f fd) (gl : mg "is_tuple_of" = some (.ref f)) : Ok_is_tuple_of P w K mg base T gm := by
  have S := sc_is_tuple_of
  refine ⟨f, fd, fn_of Fd S (fun ds c R RX h => by have := h.1; simp [this]) (fun cdv A outer s H E hr hG M RX hH hp ht ni hE => ?_), Fd, gl⟩
  exact ⟨_, s_one (s_ret ((e_and (e_isi B.isinstance (a_cons (e_var 0 (fun _ => pv 0)) (a_cons (e_ty B.tuple boot_tup (fun _ => rfl)) a_nil)) (fun _ => rfl)) (e_one (ec c_eq (e_len B.len (a_cons (e_var 0 (fun _ => pv 0)) a_nil) (fun _ => rfl)) (e_var 1 (fun _ => pv 1)) (nomark _)))))), fun ds c R h => h.2⟩
theorem sc_need_between : FnScope ["what", "number", "low", "high"] ["what", "number", "low", "high"] (defScope (top 13)) := ⟨rfl, rfl, rfl, by decide +kernel, rfl, by decide +kernel, by decide +kernel⟩
def Ok_need_between (P : Program) (w : World) (K : PySem.W.Frag) (mg : Str → Option Value) (base : Heap) (T : List (Addr × Str)) (gm : Gm) : Prop := ∃ f fd, Gd.FnG P w K mg base (L2.CX P w) 3 f fd ["what", "number", "low", "high"] (spF false [] (Ψ_need_between gm)) ∧ FnP K "need_between" (top 13) f fd ∧ mg "need_between" = some (.ref f)
theorem ok_need_between (B : Bs mg) (Sy : Sys K) (Fd : FnP K "need_between" (top 13) f fd) (T_BadNumber : Err P w K mg base "BadNumber" (gm.a "BadNumber") ["what", "number"]) (h_is_whole : Ok_is_whole P w K mg base T gm) (gl : mg "need_between" = some (.ref f)) : Ok_need_between P w K mg base T gm := by
  obtain ⟨f_is_whole, fd_is_whole, O_is_whole, F_is_whole, G_is_whole⟩ := h_is_whole
  have S := sc_need_between
  refine ⟨f, fd, fn_of Fd S (fun ds c R RX h => by have := h.1; simp [this]) (fun cdv A outer s H E hr hG M RX hH hp ht ni hE => ?_), Fd, gl⟩
  exact ⟨_, s_cons (s_if (t_not (t_val (e_call (RX := RX) O_is_whole (by decide) G_is_whole F_is_whole.kp (F_is_whole.bindsN fun _ _ _ _ _ _ us hl => match us, hl with | [_], _ => rfl) hE ni (a_cons (e_var 1 (fun _ => pv 1)) a_nil) (fun _ => rfl)))) (s_one (s_raise T_BadNumber (by decide) (a_cons (e_var 0 (fun _ => pv 0)) (a_cons (e_var 1 (fun _ => pv 1)) a_nil)) hE ni (fun _ => body_takes) (fun _ => rfl))) (s_nil)) (s_one (s_if (t_w (w_or (t_w (w_and (tc isnot_non (e_var 2 (fun _ => pv 2)) (e_non) (nomark _)) (w_and1 (tc c_lt (e_var 1 (fun _ => pv 1)) (e_var 2 (fun _ => pv 2)) (nomark _))))) (w_or1 (t_w (w_and (tc isnot_non (e_var 3 (fun _ => pv 3)) (e_non) (nomark _)) (w_and1 (tc c_gt (e_var 1 (fun _ => pv 1)) (e_var 3 (fun _ => pv 3)) (nomark _)))))))) (s_one (s_raise T_BadNumber (by decide) (a_cons (e_var 0 (fun _ => pv 0)) (a_cons (e_var 1 (fun _ => pv 1)) a_nil)) hE ni (fun _ => body_takes) (fun _ => rfl))) (s_nil))), fun ds c R h => h.2⟩
theorem sc_is_web : FnScope ["value", "tie", "item"] ["value"] (defScope (top 17)) := ⟨rfl, rfl, rfl, by decide +kernel, rfl, by decide +kernel, by decide +kernel⟩
def Ok_is_web (P : Program) (w : World) (K : PySem.W.Frag) (mg : Str → Option Value) (base : Heap) (T : List (Addr × Str)) (gm : Gm) : Prop := ∃ f fd, Gd.FnG P w K mg base (L2.CX P w) 2 f fd ["value"] (spF false [] (Ψ_is_web gm)) ∧ FnP K "is_web" (top 17) f fd ∧ mg "is_web" = some (.ref f)
theorem ok_is_web (B : Bs mg) (Sy : Sys K) (Fd : FnP K "is_web" (top 17) f fd) (h_is_whole : Ok_is_whole P w K mg base T gm) (h_is_tuple_of : Ok_is_tuple_of P w K mg base T gm) (c_MOST_PLACES_kinds : ∃ t, mg "MOST_PLACES_kinds" = some (.int 8 t)) (c_MOST_TIES_kinds : ∃ t, mg "MOST_TIES_kinds" = some (.int 12 t)) (gl : mg "is_web" = some (.ref f)) : Ok_is_web P w K mg base T gm := by
  obtain ⟨f_is_whole, fd_is_whole, O_is_whole, F_is_whole, G_is_whole⟩ := h_is_whole
  obtain ⟨f_is_tuple_of, fd_is_tuple_of, O_is_tuple_of, F_is_tuple_of, G_is_tuple_of⟩ := h_is_tuple_of
  have S := sc_is_web
  refine ⟨f, fd, fn_of Fd S (fun ds c R RX h => by have := h.1; simp [this]) (fun cdv A outer s H E hr hG M RX hH hp ht ni hE => ?_), Fd, gl⟩
  exact ⟨_, s_cons (s_if (t_w (w_or (t_not (t_val (e_call (RX := RX) O_is_tuple_of (by decide) G_is_tuple_of F_is_tuple_of.kp (F_is_tuple_of.bindsN fun _ _ _ _ _ _ us hl => match us, hl with | [_, _], _ => rfl) hE ni (a_cons (e_var 0 (fun _ => pv 0)) (a_cons (e_int) a_nil)) (fun _ => rfl)))) (w_or (t_not (t_val (e_call (RX := RX) O_is_whole (by decide) G_is_whole F_is_whole.kp (F_is_whole.bindsN fun _ _ _ _ _ _ us hl => match us, hl with | [_], _ => rfl) hE ni (a_cons (e_ix (e_var 0 (fun _ => pv 0)) (e_int)) a_nil) (fun _ => rfl)))) (w_or1 (t_not (t_chain (fun _ => op_le) (fun _ => op_le) (e_int) (e_ix (e_var 0 (fun _ => pv 0)) (e_int)) (e_gint c_MOST_PLACES_kinds (fun _ => rfl)))))))) (s_one (s_ret (e_bl))) (s_nil)) (s_cons (s_if (t_w (w_or (t_not (t_val (e_isi B.isinstance (a_cons (e_ix (e_var 0 (fun _ => pv 0)) (e_int)) (a_cons (e_ty B.tuple boot_tup (fun _ => rfl)) a_nil)) (fun _ => rfl)))) (w_or1 (tc c_gt (e_len B.len (a_cons (e_ix (e_var 0 (fun _ => pv 0)) (e_int)) a_nil) (fun _ => rfl)) (e_gint c_MOST_TIES_kinds (fun _ => rfl)) (nomark _))))) (s_one (s_ret (e_bl))) (s_nil)) (s_cons (s_for (fun _ => body_own) (id_seq2 (e_ix (e_var 0 (fun _ => pv 0)) (e_int))) (g_name 1 (fun _ => pg_name (i := 1) S.nd rfl (by first | exact .inl rfl | exact .inr rfl))) (s_cons (s_if (t_w (w_or (t_not (t_val (e_call (RX := RX) O_is_tuple_of (by decide) G_is_tuple_of F_is_tuple_of.kp (F_is_tuple_of.bindsN fun _ _ _ _ _ _ us hl => match us, hl with | [_, _], _ => rfl) hE ni (a_cons (e_var 1 (fun _ => pv 1)) (a_cons (e_int) a_nil)) (fun _ => rfl)))) (w_or1 (t_not (t_val (e_all B.all (a_cons (e_fz (l_lc (own := [("item", 2)]) (fun _ => blkOk_by (own := [("item", 2)]) (N := ["value", "tie", "item"]) (sc := defScope (top 17)) (by decide +kernel)) (fun _ => S.nd) (id_seq2 (e_var 1 (fun _ => pv 1))) (g_name 2 (fun _ => pg_name (i := 2) S.nd rfl (by first | exact .inl rfl | exact .inr rfl))) ts_nil ((e_and (e_call (RX := (fun _ _ => False)) O_is_whole (by decide) G_is_whole F_is_whole.kp (F_is_whole.bindsN fun _ _ _ _ _ _ us hl => match us, hl with | [_], _ => rfl) (fun _ _ _ _ _ _ z => z.elim) ni (a_cons (e_var 2 (fun _ => pv 2)) a_nil) (fun _ => rfl)) (e_one (e_chain (fun _ => op_le) (fun _ => op_lt) (e_int) (e_var 2 (fun _ => pv 2)) (e_ix (e_var 0 (fun _ => pv 0)) (e_int)))))))) a_nil) (fun _ => rfl))))))) (s_one (s_ret (e_bl))) (s_nil)) (s_one (s_if (tc c_eq (e_ix (e_var 1 (fun _ => pv 1)) (e_int)) (e_ix (e_var 1 (fun _ => pv 1)) (e_int)) (nomark _)) (s_one (s_ret (e_bl))) (s_nil))))) (s_one (s_ret (e_bl))))), fun ds c R h => h.2⟩
theorem sc_web_from : FnScope ["what", "web", "made"] ["what", "web"] (defScope (top 18)) := ⟨rfl, rfl, rfl, by decide +kernel, rfl, by decide +kernel, by decide +kernel⟩
def Ok_web_from (P : Program) (w : World) (K : PySem.W.Frag) (mg : Str → Option Value) (base : Heap) (T : List (Addr × Str)) (gm : Gm) : Prop := ∃ f fd, Gd.FnG P w K mg base (L2.CX P w) 13 f fd ["what", "web"] (spF false [] (Ψ_web_from gm)) ∧ FnP K "web_from" (top 18) f fd ∧ mg "web_from" = some (.ref f)
theorem ok_web_from (B : Bs mg) (Sy : Sys K) (Fd : FnP K "web_from" (top 18) f fd) (T_BadWeb : Err P w K mg base "BadWeb" (gm.a "BadWeb") ["what", "value"]) (h_in_tuples : Ok_in_tuples P w K mg base T gm) (h_is_web : Ok_is_web P w K mg base T gm) (gl : mg "web_from" = some (.ref f)) : Ok_web_from P w K mg base T gm := by
  obtain ⟨f_in_tuples, fd_in_tuples, O_in_tuples, F_in_tuples, G_in_tuples⟩ := h_in_tuples
  obtain ⟨f_is_web, fd_is_web, O_is_web, F_is_web, G_is_web⟩ := h_is_web
  have S := sc_web_from
  refine ⟨f, fd, fn_of Fd S (fun ds c R RX h => by have := h.1; simp [this]) (fun cdv A outer s H E hr hG M RX hH hp ht ni hE => ?_), Fd, gl⟩
  exact ⟨_, s_cons (s_setR (fun t h j => ps_set (i := 2) S.nd rfl (by first | exact .inl rfl | exact .inr rfl) (h j)) (e_call (RX := RX) O_in_tuples (by decide) G_in_tuples F_in_tuples.kp (F_in_tuples.bindsN fun _ _ _ _ _ _ us hl => match us, hl with | [_], _ => rfl) hE ni (a_cons (e_var 1 (fun _ => pv 1)) a_nil) (fun _ => rfl))) (s_cons (s_if (t_not (t_val (e_call (RX := RX) O_is_web (by decide) G_is_web F_is_web.kp (F_is_web.bindsN fun _ _ _ _ _ _ us hl => match us, hl with | [_], _ => rfl) hE ni (a_cons (e_var 2 (fun _ => pv 2)) a_nil) (fun _ => rfl)))) (s_one (s_raise T_BadWeb (by decide) (a_cons (e_var 0 (fun _ => pv 0)) (a_cons (e_var 1 (fun _ => pv 1)) a_nil)) hE ni (fun _ => body_takes) (fun _ => rfl))) (s_nil)) (s_one (s_ret (e_var 2 (fun _ => pv 2))))), fun ds c R h => h.2⟩
theorem sc_is_end : FnScope ["above", "below", "names", "number", "end", "one", "other", "place"] ["above", "below", "names", "number", "end"] (defScope (top 20)) := ⟨rfl, rfl, rfl, by decide +kernel, rfl, by decide +kernel, by decide +kernel⟩
def Ok_is_end (P : Program) (w : World) (K : PySem.W.Frag) (mg : Str → Option Value) (base : Heap) (T : List (Addr × Str)) (gm : Gm) : Prop := ∃ f fd, Gd.FnG P w K mg base (L2.CX P w) 2 f fd ["above", "below", "names", "number", "end"] (spF false [] (Ψ_is_end gm)) ∧ FnP K "is_end" (top 20) f fd ∧ mg "is_end" = some (.ref f)
theorem ok_is_end (B : Bs mg) (Sy : Sys K) (Fd : FnP K "is_end" (top 20) f fd) (h_is_whole : Ok_is_whole P w K mg base T gm) (h_is_tuple_of : Ok_is_tuple_of P w K mg base T gm) (gl : mg "is_end" = some (.ref f)) : Ok_is_end P w K mg base T gm := by
  obtain ⟨f_is_whole, fd_is_whole, O_is_whole, F_is_whole, G_is_whole⟩ := h_is_whole
  obtain ⟨f_is_tuple_of, fd_is_tuple_of, O_is_tuple_of, F_is_tuple_of, G_is_tuple_of⟩ := h_is_tuple_of
  have S := sc_is_end
  refine ⟨f, fd, fn_of Fd S (fun ds c R RX h => by have := h.1; simp [this]) (fun cdv A outer s H E hr hG M RX hH hp ht ni hE => ?_), Fd, gl⟩
  exact ⟨_, s_cons (s_if (t_w (w_or (t_not (t_val (e_call (RX := RX) O_is_tuple_of (by decide) G_is_tuple_of F_is_tuple_of.kp (F_is_tuple_of.bindsN fun _ _ _ _ _ _ us hl => match us, hl with | [_, _], _ => rfl) hE ni (a_cons (e_var 4 (fun _ => pv 4)) (a_cons (e_int) a_nil)) (fun _ => rfl)))) (w_or (t_not (t_val (e_call (RX := RX) O_is_whole (by decide) G_is_whole F_is_whole.kp (F_is_whole.bindsN fun _ _ _ _ _ _ us hl => match us, hl with | [_], _ => rfl) hE ni (a_cons (e_ix (e_var 4 (fun _ => pv 4)) (e_int)) a_nil) (fun _ => rfl)))) (w_or1 (t_not (t_val (e_isi B.isinstance (a_cons (e_ix (e_var 4 (fun _ => pv 4)) (e_int)) (a_cons (e_ty B.bool boot_boolD (fun _ => rfl)) a_nil)) (fun _ => rfl)))))))) (s_one (s_ret (e_bl))) (s_nil)) (s_cons (s_if (t_not (t_chain (fun _ => op_le) (fun _ => op_lt) (e_int) (e_ix (e_var 4 (fun _ => pv 4)) (e_int)) (e_len B.len (a_cons (e_ix (e_var 1 (fun _ => pv 1)) (e_int)) a_nil) (fun _ => rfl)))) (s_one (s_ret (e_bl))) (s_nil)) (s_cons (s_asg (e_fz (l_lc (own := [("place", 7)]) (fun _ => blkOk_by (own := [("place", 7)]) (N := ["above", "below", "names", "number", "end", "one", "other", "place"]) (sc := defScope (top 20)) (by decide +kernel)) (fun _ => S.nd) (id_seq2 (e_ix (e_ix (e_var 0 (fun _ => pv 0)) (e_int)) (e_var 3 (fun _ => pv 3)))) (g_name 7 (fun _ => pg_name (i := 7) S.nd rfl (by first | exact .inl rfl | exact .inr rfl))) ts_nil (e_ix (e_var 2 (fun _ => pv 2)) (e_var 7 (fun _ => pv 7))))) (g_unl 2 (gs_cons (g_name 5 (fun _ => pg_name (i := 5) S.nd rfl (by first | exact .inl rfl | exact .inr rfl))) (gs_cons (g_name 6 (fun _ => pg_name (i := 6) S.nd rfl (by first | exact .inl rfl | exact .inr rfl))) gs_nil)))) (s_one (s_ret (ec c_eq (e_ix (e_ix (e_var 1 (fun _ => pv 1)) (e_int)) (e_ix (e_var 4 (fun _ => pv 4)) (e_int))) (e_if (t_val (e_ix (e_var 4 (fun _ => pv 4)) (e_int))) (e_tup (a_cons (e_var 6 (fun _ => pv 6)) (a_cons (e_var 5 (fun _ => pv 5)) a_nil))) (e_tup (a_cons (e_var 5 (fun _ => pv 5)) (a_cons (e_var 6 (fun _ => pv 6)) a_nil)))) (nomark _)))))), fun ds c R h => h.2⟩
theorem sc_is_way : FnScope ["above", "below", "value", "names", "name", "number", "end"] ["above", "below", "value"] (defScope (top 21)) := ⟨rfl, rfl, rfl, by decide +kernel, rfl, by decide +kernel, by decide +kernel⟩
def Ok_is_way (P : Program) (w : World) (K : PySem.W.Frag) (mg : Str → Option Value) (base : Heap) (T : List (Addr × Str)) (gm : Gm) : Prop := ∃ f fd, Gd.FnG P w K mg base (L2.CX P w) 3 f fd ["above", "below", "value"] (spF false [] (Ψ_is_way gm)) ∧ FnP K "is_way" (top 21) f fd ∧ mg "is_way" = some (.ref f)
theorem ok_is_way (B : Bs mg) (Sy : Sys K) (Fd : FnP K "is_way" (top 21) f fd) (h_is_tuple_of : Ok_is_tuple_of P w K mg base T gm) (h_is_whole : Ok_is_whole P w K mg base T gm) (h_is_end : Ok_is_end P w K mg base T gm) (gl : mg "is_way" = some (.ref f)) : Ok_is_way P w K mg base T gm := by
  obtain ⟨f_is_tuple_of, fd_is_tuple_of, O_is_tuple_of, F_is_tuple_of, G_is_tuple_of⟩ := h_is_tuple_of
  obtain ⟨f_is_whole, fd_is_whole, O_is_whole, F_is_whole, G_is_whole⟩ := h_is_whole
  obtain ⟨f_is_end, fd_is_end, O_is_end, F_is_end, G_is_end⟩ := h_is_end
  have S := sc_is_way
  refine ⟨f, fd, fn_of Fd S (fun ds c R RX h => by have := h.1; simp [this]) (fun cdv A outer s H E hr hG M RX hH hp ht ni hE => ?_), Fd, gl⟩
  exact ⟨_, s_cons (s_if (t_w (w_or (t_not (t_val (e_call (RX := RX) O_is_tuple_of (by decide) G_is_tuple_of F_is_tuple_of.kp (F_is_tuple_of.bindsN fun _ _ _ _ _ _ us hl => match us, hl with | [_, _], _ => rfl) hE ni (a_cons (e_var 2 (fun _ => pv 2)) (a_cons (e_int) a_nil)) (fun _ => rfl)))) (w_or (t_not (t_val (e_call (RX := RX) O_is_tuple_of (by decide) G_is_tuple_of F_is_tuple_of.kp (F_is_tuple_of.bindsN fun _ _ _ _ _ _ us hl => match us, hl with | [_, _], _ => rfl) hE ni (a_cons (e_ix (e_var 2 (fun _ => pv 2)) (e_int)) (a_cons (e_ix (e_var 0 (fun _ => pv 0)) (e_int)) a_nil)) (fun _ => rfl)))) (w_or1 (t_not (t_val (e_call (RX := RX) O_is_tuple_of (by decide) G_is_tuple_of F_is_tuple_of.kp (F_is_tuple_of.bindsN fun _ _ _ _ _ _ us hl => match us, hl with | [_, _], _ => rfl) hE ni (a_cons (e_ix (e_var 2 (fun _ => pv 2)) (e_int)) (a_cons (e_len B.len (a_cons (e_ix (e_var 0 (fun _ => pv 0)) (e_int)) a_nil) (fun _ => rfl)) a_nil)) (fun _ => rfl)))))))) (s_one (s_ret (e_bl))) (s_nil)) (s_cons (s_setR (fun t h j => ps_set (i := 3) S.nd rfl (by first | exact .inl rfl | exact .inr rfl) (h j)) (e_ix (e_var 2 (fun _ => pv 2)) (e_int))) (s_cons (s_if (t_not (t_val (e_all B.all (a_cons (e_fz (l_lc (own := [("name", 4)]) (fun _ => blkOk_by (own := [("name", 4)]) (N := ["above", "below", "value", "names", "name", "number", "end"]) (sc := defScope (top 21)) (by decide +kernel)) (fun _ => S.nd) (id_seq2 (e_var 3 (fun _ => pv 3))) (g_name 4 (fun _ => pg_name (i := 4) S.nd rfl (by first | exact .inl rfl | exact .inr rfl))) ts_nil ((e_and (e_call (RX := (fun _ _ => False)) O_is_whole (by decide) G_is_whole F_is_whole.kp (F_is_whole.bindsN fun _ _ _ _ _ _ us hl => match us, hl with | [_], _ => rfl) (fun _ _ _ _ _ _ z => z.elim) ni (a_cons (e_var 4 (fun _ => pv 4)) a_nil) (fun _ => rfl)) (e_one (e_chain (fun _ => op_le) (fun _ => op_lt) (e_int) (e_var 4 (fun _ => pv 4)) (e_ix (e_var 1 (fun _ => pv 1)) (e_int)))))))) a_nil) (fun _ => rfl)))) (s_one (s_ret (e_bl))) (s_nil)) (s_one (s_ret (e_all B.all (a_cons (e_fz (l_lc (own := [("number", 5), ("end", 6)]) (fun _ => blkOk_by (own := [("number", 5), ("end", 6)]) (N := ["above", "below", "value", "names", "name", "number", "end"]) (sc := defScope (top 21)) (by decide +kernel)) (fun _ => S.nd) (id_enum (a_cons (e_ix (e_var 2 (fun _ => pv 2)) (e_int)) a_nil) (fun _ => rfl) B.enumerate) (g_tup 2 (gs_cons (g_name 5 (fun _ => pg_name (i := 5) S.nd rfl (by first | exact .inl rfl | exact .inr rfl))) (gs_cons (g_name 6 (fun _ => pg_name (i := 6) S.nd rfl (by first | exact .inl rfl | exact .inr rfl))) gs_nil))) ts_nil (e_call (RX := (fun _ _ => False)) O_is_end (by decide) G_is_end F_is_end.kp (F_is_end.bindsN fun _ _ _ _ _ _ us hl => match us, hl with | [_, _, _, _, _], _ => rfl) (fun _ _ _ _ _ _ z => z.elim) ni (a_cons (e_var 0 (fun _ => pv 0)) (a_cons (e_var 1 (fun _ => pv 1)) (a_cons (e_var 3 (fun _ => pv 3)) (a_cons (e_var 5 (fun _ => pv 5)) (a_cons (e_var 6 (fun _ => pv 6)) a_nil))))) (fun _ => rfl)))) a_nil) (fun _ => rfl)))))), fun ds c R h => h.2⟩
theorem sc_is_web_map : FnScope ["above", "below", "value", "first"] ["above", "below", "value"] (defScope (top 22)) := ⟨rfl, rfl, rfl, by decide +kernel, rfl, by decide +kernel, by decide +kernel⟩
def Ok_is_web_map (P : Program) (w : World) (K : PySem.W.Frag) (mg : Str → Option Value) (base : Heap) (T : List (Addr × Str)) (gm : Gm) : Prop := ∃ f fd, Gd.FnG P w K mg base (L2.CX P w) 14 f fd ["above", "below", "value"] (spF false [] (Ψ_is_web_map gm)) ∧ FnP K "is_web_map" (top 22) f fd ∧ mg "is_web_map" = some (.ref f)
theorem ok_is_web_map (B : Bs mg) (Sy : Sys K) (Fd : FnP K "is_web_map" (top 22) f fd) (h_web_from : Ok_web_from P w K mg base T gm) (h_is_way : Ok_is_way P w K mg base T gm) (gl : mg "is_web_map" = some (.ref f)) : Ok_is_web_map P w K mg base T gm := by
  obtain ⟨f_web_from, fd_web_from, O_web_from, F_web_from, G_web_from⟩ := h_web_from
  obtain ⟨f_is_way, fd_is_way, O_is_way, F_is_way, G_is_way⟩ := h_is_way
  have S := sc_is_web_map
  refine ⟨f, fd, fn_of Fd S (fun ds c R RX h => by have := h.1; simp [this]) (fun cdv A outer s H E hr hG M RX hH hp ht ni hE => ?_), Fd, gl⟩
  exact ⟨_, s_cons (s_setR (fun t h j => ps_set (i := 3) S.nd rfl (by first | exact .inl rfl | exact .inr rfl) (h j)) (e_call (RX := RX) O_web_from (by decide) G_web_from F_web_from.kp (F_web_from.bindsN fun _ _ _ _ _ _ us hl => match us, hl with | [_, _], _ => rfl) hE ni (a_cons (e_str) (a_cons (e_var 0 (fun _ => pv 0)) a_nil)) (fun _ => rfl))) (s_one (s_ret (e_call (RX := RX) O_is_way (by decide) G_is_way F_is_way.kp (F_is_way.bindsN fun _ _ _ _ _ _ us hl => match us, hl with | [_, _, _], _ => rfl) hE ni (a_cons (e_var 3 (fun _ => pv 3)) (a_cons (e_call (RX := RX) O_web_from (by decide) G_web_from F_web_from.kp (F_web_from.bindsN fun _ _ _ _ _ _ us hl => match us, hl with | [_, _], _ => rfl) hE ni (a_cons (e_str) (a_cons (e_var 1 (fun _ => pv 1)) a_nil)) (fun _ => rfl)) (a_cons (e_var 2 (fun _ => pv 2)) a_nil))) (fun _ => rfl)))), fun ds c R h => h.2⟩
theorem sc_way_from : FnScope ["above", "below", "way", "made"] ["above", "below", "way"] (defScope (top 23)) := ⟨rfl, rfl, rfl, by decide +kernel, rfl, by decide +kernel, by decide +kernel⟩
def Ok_way_from (P : Program) (w : World) (K : PySem.W.Frag) (mg : Str → Option Value) (base : Heap) (T : List (Addr × Str)) (gm : Gm) : Prop := ∃ f fd, Gd.FnG P w K mg base (L2.CX P w) 13 f fd ["above", "below", "way"] (spF false [] (Ψ_way_from gm)) ∧ FnP K "way_from" (top 23) f fd ∧ mg "way_from" = some (.ref f)
theorem ok_way_from (B : Bs mg) (Sy : Sys K) (Fd : FnP K "way_from" (top 23) f fd) (T_BadRow : Err P w K mg base "BadRow" (gm.a "BadRow") ["row"]) (h_in_tuples : Ok_in_tuples P w K mg base T gm) (h_is_way : Ok_is_way P w K mg base T gm) (gl : mg "way_from" = some (.ref f)) : Ok_way_from P w K mg base T gm := by
  obtain ⟨f_in_tuples, fd_in_tuples, O_in_tuples, F_in_tuples, G_in_tuples⟩ := h_in_tuples
  obtain ⟨f_is_way, fd_is_way, O_is_way, F_is_way, G_is_way⟩ := h_is_way
  have S := sc_way_from
  refine ⟨f, fd, fn_of Fd S (fun ds c R RX h => by have := h.1; simp [this]) (fun cdv A outer s H E hr hG M RX hH hp ht ni hE => ?_), Fd, gl⟩
  exact ⟨_, s_cons (s_setR (fun t h j => ps_set (i := 3) S.nd rfl (by first | exact .inl rfl | exact .inr rfl) (h j)) (e_call (RX := RX) O_in_tuples (by decide) G_in_tuples F_in_tuples.kp (F_in_tuples.bindsN fun _ _ _ _ _ _ us hl => match us, hl with | [_], _ => rfl) hE ni (a_cons (e_var 2 (fun _ => pv 2)) a_nil) (fun _ => rfl))) (s_cons (s_if (t_not (t_val (e_call (RX := RX) O_is_way (by decide) G_is_way F_is_way.kp (F_is_way.bindsN fun _ _ _ _ _ _ us hl => match us, hl with | [_, _, _], _ => rfl) hE ni (a_cons (e_var 0 (fun _ => pv 0)) (a_cons (e_var 1 (fun _ => pv 1)) (a_cons (e_var 3 (fun _ => pv 3)) a_nil))) (fun _ => rfl)))) (s_one (s_raise T_BadRow (by decide) (a_cons (e_var 2 (fun _ => pv 2)) a_nil) hE ni (fun _ => body_takes) (fun _ => rfl))) (s_nil)) (s_one (s_ret (e_var 3 (fun _ => pv 3))))), fun ds c R h => h.2⟩
theorem sc_ends_over : FnScope ["above", "made", "place", "tie", "side", "out", "number", "pair", "other", "turn"] ["above", "made", "place", "tie", "side"] (defScope (top 24)) := ⟨rfl, rfl, rfl, by decide +kernel, rfl, by decide +kernel, by decide +kernel⟩
def Ok_ends_over (P : Program) (w : World) (K : PySem.W.Frag) (mg : Str → Option Value) (base : Heap) (T : List (Addr × Str)) (gm : Gm) : Prop := ∃ f fd, Gd.FnG P w K mg base (L2.CX P w) 1 f fd ["above", "made", "place", "tie", "side"] (spF false [] (Ψ_ends_over gm)) ∧ FnP K "ends_over" (top 24) f fd ∧ mg "ends_over" = some (.ref f)
theorem ok_ends_over (B : Bs mg) (Sy : Sys K) (Fd : FnP K "ends_over" (top 24) f fd) (gl : mg "ends_over" = some (.ref f)) : Ok_ends_over P w K mg base T gm := by
  have S := sc_ends_over
  refine ⟨f, fd, fn_of Fd S (fun ds c R RX h => by have := h.1; simp [this]) (fun cdv A outer s H E hr hG M RX hH hp ht ni hE => ?_), Fd, gl⟩
  exact ⟨_, s_cons (s_ownR (fun t h j => ps_set (i := 5) S.nd rfl (by first | exact .inl rfl | exact .inr rfl) (h j)) (l_lst a_nil)) (s_cons (s_for (fun _ => body_own) (id_enum (a_cons (e_ix (e_var 0 (fun _ => pv 0)) (e_int)) a_nil) (fun _ => rfl) B.enumerate) (g_tup 2 (gs_cons (g_name 6 (fun _ => pg_name (i := 6) S.nd rfl (by first | exact .inl rfl | exact .inr rfl))) (gs_cons (g_name 7 (fun _ => pg_name (i := 7) S.nd rfl (by first | exact .inl rfl | exact .inr rfl))) gs_nil))) (s_cons (s_asg (e_ix (e_ix (e_var 1 (fun _ => pv 1)) (e_int)) (e_var 6 (fun _ => pv 6))) (g_tup 2 (gs_cons (g_name 8 (fun _ => pg_name (i := 8) S.nd rfl (by first | exact .inl rfl | exact .inr rfl))) (gs_cons (g_name 9 (fun _ => pg_name (i := 9) S.nd rfl (by first | exact .inl rfl | exact .inr rfl))) gs_nil)))) (s_one (s_if (t_w (w_and (tc c_eq (e_var 8 (fun _ => pv 8)) (e_var 3 (fun _ => pv 3)) (nomark _)) (w_and1 (tc c_eq (e_ix (e_var 7 (fun _ => pv 7)) (e_if (t_val (e_var 9 (fun _ => pv 9))) (e_sub (e_int) (e_var 4 (fun _ => pv 4))) (e_var 4 (fun _ => pv 4)))) (e_var 2 (fun _ => pv 2)) (nomark _))))) (s_one (s_append 5 (fun _ => pv 5) (e_var 6 (fun _ => pv 6)))) (s_nil))))) (s_frz 5 (s_one (s_ret (e_var 5 (fun _ => pv 5)))))), fun ds c R h => h.2⟩
theorem sc_is_cover_by : FnScope ["above", "below", "made", "place", "tie", "pair", "side"] ["above", "below", "made"] (defScope (top 25)) := ⟨rfl, rfl, rfl, by decide +kernel, rfl, by decide +kernel, by decide +kernel⟩
def Ok_is_cover_by (P : Program) (w : World) (K : PySem.W.Frag) (mg : Str → Option Value) (base : Heap) (T : List (Addr × Str)) (gm : Gm) : Prop := ∃ f fd, Gd.FnG P w K mg base (L2.CX P w) 2 f fd ["above", "below", "made"] (spF false [] (Ψ_is_cover_by gm)) ∧ FnP K "is_cover_by" (top 25) f fd ∧ mg "is_cover_by" = some (.ref f)
theorem ok_is_cover_by (B : Bs mg) (Sy : Sys K) (Fd : FnP K "is_cover_by" (top 25) f fd) (h_ends_over : Ok_ends_over P w K mg base T gm) (gl : mg "is_cover_by" = some (.ref f)) : Ok_is_cover_by P w K mg base T gm := by
  obtain ⟨f_ends_over, fd_ends_over, O_ends_over, F_ends_over, G_ends_over⟩ := h_ends_over
  have S := sc_is_cover_by
  refine ⟨f, fd, fn_of Fd S (fun ds c R RX h => by have := h.1; simp [this]) (fun cdv A outer s H E hr hG M RX hH hp ht ni hE => ?_), Fd, gl⟩
  exact ⟨_, s_cons (s_for (fun _ => body_own) (id_rng (a_cons (e_ix (e_var 0 (fun _ => pv 0)) (e_int)) a_nil) (fun _ => rfl) B.range) (g_name 3 (fun _ => pg_name (i := 3) S.nd rfl (by first | exact .inl rfl | exact .inr rfl))) (s_one (s_for (fun _ => body_own) (id_enum (a_cons (e_ix (e_var 1 (fun _ => pv 1)) (e_int)) a_nil) (fun _ => rfl) B.enumerate) (g_tup 2 (gs_cons (g_name 4 (fun _ => pg_name (i := 4) S.nd rfl (by first | exact .inl rfl | exact .inr rfl))) (gs_cons (g_name 5 (fun _ => pg_name (i := 5) S.nd rfl (by first | exact .inl rfl | exact .inr rfl))) gs_nil))) (s_one (s_for (fun _ => body_own) (id_rng (a_cons (e_int) a_nil) (fun _ => rfl) B.range) (g_name 6 (fun _ => pg_name (i := 6) S.nd rfl (by first | exact .inl rfl | exact .inr rfl))) (s_one (s_if (t_w (w_and (tc c_eq (e_ix (e_var 5 (fun _ => pv 5)) (e_var 6 (fun _ => pv 6))) (e_ix (e_ix (e_var 2 (fun _ => pv 2)) (e_int)) (e_var 3 (fun _ => pv 3))) (nomark _)) (w_and1 (tc c_ne (e_len B.len (a_cons (e_call (RX := RX) O_ends_over (by decide) G_ends_over F_ends_over.kp (F_ends_over.bindsN fun _ _ _ _ _ _ us hl => match us, hl with | [_, _, _, _, _], _ => rfl) hE ni (a_cons (e_var 0 (fun _ => pv 0)) (a_cons (e_var 2 (fun _ => pv 2)) (a_cons (e_var 3 (fun _ => pv 3)) (a_cons (e_var 4 (fun _ => pv 4)) (a_cons (e_var 6 (fun _ => pv 6)) a_nil))))) (fun _ => rfl)) a_nil) (fun _ => rfl)) (e_int) (nomark _))))) (s_one (s_ret (e_bl))) (s_nil)))))))) (s_one (s_ret (e_bl))), fun ds c R h => h.2⟩
theorem sc_is_cover : FnScope ["above", "below", "way", "first", "second"] ["above", "below", "way"] (defScope (top 26)) := ⟨rfl, rfl, rfl, by decide +kernel, rfl, by decide +kernel, by decide +kernel⟩
def Ok_is_cover (P : Program) (w : World) (K : PySem.W.Frag) (mg : Str → Option Value) (base : Heap) (T : List (Addr × Str)) (gm : Gm) : Prop := ∃ f fd, Gd.FnG P w K mg base (L2.CX P w) 14 f fd ["above", "below", "way"] (spF false [] (Ψ_is_cover gm)) ∧ FnP K "is_cover" (top 26) f fd ∧ mg "is_cover" = some (.ref f)
theorem ok_is_cover (B : Bs mg) (Sy : Sys K) (Fd : FnP K "is_cover" (top 26) f fd) (h_web_from : Ok_web_from P w K mg base T gm) (h_is_cover_by : Ok_is_cover_by P w K mg base T gm) (h_way_from : Ok_way_from P w K mg base T gm) (gl : mg "is_cover" = some (.ref f)) : Ok_is_cover P w K mg base T gm := by
  obtain ⟨f_web_from, fd_web_from, O_web_from, F_web_from, G_web_from⟩ := h_web_from
  obtain ⟨f_is_cover_by, fd_is_cover_by, O_is_cover_by, F_is_cover_by, G_is_cover_by⟩ := h_is_cover_by
  obtain ⟨f_way_from, fd_way_from, O_way_from, F_way_from, G_way_from⟩ := h_way_from
  have S := sc_is_cover
  refine ⟨f, fd, fn_of Fd S (fun ds c R RX h => by have := h.1; simp [this]) (fun cdv A outer s H E hr hG M RX hH hp ht ni hE => ?_), Fd, gl⟩
  exact ⟨_, s_cons (s_setR (fun t h j => ps_set (i := 3) S.nd rfl (by first | exact .inl rfl | exact .inr rfl) (h j)) (e_call (RX := RX) O_web_from (by decide) G_web_from F_web_from.kp (F_web_from.bindsN fun _ _ _ _ _ _ us hl => match us, hl with | [_, _], _ => rfl) hE ni (a_cons (e_str) (a_cons (e_var 0 (fun _ => pv 0)) a_nil)) (fun _ => rfl))) (s_cons (s_setR (fun t h j => ps_set (i := 4) S.nd rfl (by first | exact .inl rfl | exact .inr rfl) (h j)) (e_call (RX := RX) O_web_from (by decide) G_web_from F_web_from.kp (F_web_from.bindsN fun _ _ _ _ _ _ us hl => match us, hl with | [_, _], _ => rfl) hE ni (a_cons (e_str) (a_cons (e_var 1 (fun _ => pv 1)) a_nil)) (fun _ => rfl))) (s_one (s_ret (e_call (RX := RX) O_is_cover_by (by decide) G_is_cover_by F_is_cover_by.kp (F_is_cover_by.bindsN fun _ _ _ _ _ _ us hl => match us, hl with | [_, _, _], _ => rfl) hE ni (a_cons (e_var 3 (fun _ => pv 3)) (a_cons (e_var 4 (fun _ => pv 4)) (a_cons (e_call (RX := RX) O_way_from (by decide) G_way_from F_way_from.kp (F_way_from.bindsN fun _ _ _ _ _ _ us hl => match us, hl with | [_, _, _], _ => rfl) hE ni (a_cons (e_var 3 (fun _ => pv 3)) (a_cons (e_var 4 (fun _ => pv 4)) (a_cons (e_var 2 (fun _ => pv 2)) a_nil))) (fun _ => rfl)) a_nil))) (fun _ => rfl))))), fun ds c R h => h.2⟩
theorem sc_shifts_from : FnScope ["m", "ties", "shifts", "made", "item"] ["m", "ties", "shifts"] (defScope (top 31)) := ⟨rfl, rfl, rfl, by decide +kernel, rfl, by decide +kernel, by decide +kernel⟩
def Ok_shifts_from (P : Program) (w : World) (K : PySem.W.Frag) (mg : Str → Option Value) (base : Heap) (T : List (Addr × Str)) (gm : Gm) : Prop := ∃ f fd, Gd.FnG P w K mg base (L2.CX P w) 13 f fd ["m", "ties", "shifts"] (spF false [] (Ψ_shifts_from gm)) ∧ FnP K "shifts_from" (top 31) f fd ∧ mg "shifts_from" = some (.ref f)
theorem ok_shifts_from (B : Bs mg) (Sy : Sys K) (Fd : FnP K "shifts_from" (top 31) f fd) (T_BadRow : Err P w K mg base "BadRow" (gm.a "BadRow") ["row"]) (h_in_tuples : Ok_in_tuples P w K mg base T gm) (h_is_whole : Ok_is_whole P w K mg base T gm) (h_is_tuple_of : Ok_is_tuple_of P w K mg base T gm) (gl : mg "shifts_from" = some (.ref f)) : Ok_shifts_from P w K mg base T gm := by
  obtain ⟨f_in_tuples, fd_in_tuples, O_in_tuples, F_in_tuples, G_in_tuples⟩ := h_in_tuples
  obtain ⟨f_is_whole, fd_is_whole, O_is_whole, F_is_whole, G_is_whole⟩ := h_is_whole
  obtain ⟨f_is_tuple_of, fd_is_tuple_of, O_is_tuple_of, F_is_tuple_of, G_is_tuple_of⟩ := h_is_tuple_of
  have S := sc_shifts_from
  refine ⟨f, fd, fn_of Fd S (fun ds c R RX h => by have := h.1; simp [this]) (fun cdv A outer s H E hr hG M RX hH hp ht ni hE => ?_), Fd, gl⟩
  exact ⟨_, s_cons (s_setR (fun t h j => ps_set (i := 3) S.nd rfl (by first | exact .inl rfl | exact .inr rfl) (h j)) (e_call (RX := RX) O_in_tuples (by decide) G_in_tuples F_in_tuples.kp (F_in_tuples.bindsN fun _ _ _ _ _ _ us hl => match us, hl with | [_], _ => rfl) hE ni (a_cons (e_var 2 (fun _ => pv 2)) a_nil) (fun _ => rfl))) (s_cons (s_if (t_w (w_or (t_not (t_val (e_call (RX := RX) O_is_tuple_of (by decide) G_is_tuple_of F_is_tuple_of.kp (F_is_tuple_of.bindsN fun _ _ _ _ _ _ us hl => match us, hl with | [_, _], _ => rfl) hE ni (a_cons (e_var 3 (fun _ => pv 3)) (a_cons (e_var 1 (fun _ => pv 1)) a_nil)) (fun _ => rfl)))) (w_or1 (t_not (t_val (e_all B.all (a_cons (e_fz (l_lc (own := [("item", 4)]) (fun _ => blkOk_by (own := [("item", 4)]) (N := ["m", "ties", "shifts", "made", "item"]) (sc := defScope (top 31)) (by decide +kernel)) (fun _ => S.nd) (id_seq2 (e_var 3 (fun _ => pv 3))) (g_name 4 (fun _ => pg_name (i := 4) S.nd rfl (by first | exact .inl rfl | exact .inr rfl))) ts_nil ((e_and (e_call (RX := (fun _ _ => False)) O_is_whole (by decide) G_is_whole F_is_whole.kp (F_is_whole.bindsN fun _ _ _ _ _ _ us hl => match us, hl with | [_], _ => rfl) (fun _ _ _ _ _ _ z => z.elim) ni (a_cons (e_var 4 (fun _ => pv 4)) a_nil) (fun _ => rfl)) (e_one (e_chain (fun _ => op_le) (fun _ => op_lt) (e_int) (e_var 4 (fun _ => pv 4)) (e_var 0 (fun _ => pv 0)))))))) a_nil) (fun _ => rfl))))))) (s_one (s_raise T_BadRow (by decide) (a_cons (e_var 2 (fun _ => pv 2)) a_nil) hE ni (fun _ => body_takes) (fun _ => rfl))) (s_nil)) (s_one (s_ret (e_var 3 (fun _ => pv 3))))), fun ds c R h => h.2⟩
theorem sc_cover_by : FnScope ["web", "m", "shifts", "made", "some", "ties", "ends", "number", "tie", "k", "names", "place"] ["web", "m", "shifts"] (defScope (top 32)) := ⟨rfl, rfl, rfl, by decide +kernel, rfl, by decide +kernel, by decide +kernel⟩
def Ok_cover_by (P : Program) (w : World) (K : PySem.W.Frag) (mg : Str → Option Value) (base : Heap) (T : List (Addr × Str)) (gm : Gm) : Prop := ∃ f fd, Gd.FnG P w K mg base (L2.CX P w) 14 f fd ["web", "m", "shifts"] (spF false [] (Ψ_cover_by gm)) ∧ FnP K "cover_by" (top 32) f fd ∧ mg "cover_by" = some (.ref f)
theorem ok_cover_by (B : Bs mg) (Sy : Sys K) (Fd : FnP K "cover_by" (top 32) f fd) (T_TooMany : Err P w K mg base "TooMany" (gm.a "TooMany") ["what", "many", "limit"]) (h_web_from : Ok_web_from P w K mg base T gm) (h_need_between : Ok_need_between P w K mg base T gm) (h_shifts_from : Ok_shifts_from P w K mg base T gm) (c_MOST_TURNS : ∃ t, mg "MOST_TURNS" = some (.int 6 t)) (c_MOST_PLACES_turnings : ∃ t, mg "MOST_PLACES_turnings" = some (.int 8 t)) (c_MOST_TIES_turnings : ∃ t, mg "MOST_TIES_turnings" = some (.int 12 t)) (gl : mg "cover_by" = some (.ref f)) : Ok_cover_by P w K mg base T gm := by
  obtain ⟨f_web_from, fd_web_from, O_web_from, F_web_from, G_web_from⟩ := h_web_from
  obtain ⟨f_need_between, fd_need_between, O_need_between, F_need_between, G_need_between⟩ := h_need_between
  obtain ⟨f_shifts_from, fd_shifts_from, O_shifts_from, F_shifts_from, G_shifts_from⟩ := h_shifts_from
  have S := sc_cover_by
  refine ⟨f, fd, fn_of Fd S (fun ds c R RX h => by have := h.1; simp [this]) (fun cdv A outer s H E hr hG M RX hH hp ht ni hE => ?_), Fd, gl⟩
  exact ⟨_, s_cons (s_setR (fun t h j => ps_set (i := 3) S.nd rfl (by first | exact .inl rfl | exact .inr rfl) (h j)) (e_call (RX := RX) O_web_from (by decide) G_web_from F_web_from.kp (F_web_from.bindsN fun _ _ _ _ _ _ us hl => match us, hl with | [_, _], _ => rfl) hE ni (a_cons (e_str) (a_cons (e_var 0 (fun _ => pv 0)) a_nil)) (fun _ => rfl))) (s_cons (s_expr (e_call (RX := RX) O_need_between (by decide) G_need_between F_need_between.kp (F_need_between.bindsN fun _ _ _ _ _ _ us hl => match us, hl with | [_, _, _, _], _ => rfl) hE ni (a_cons (e_str) (a_cons (e_var 1 (fun _ => pv 1)) (a_cons (e_int) (a_cons (e_gint c_MOST_TURNS (fun _ => rfl)) a_nil)))) (fun _ => rfl))) (s_cons (s_setR (fun t h j => ps_set (i := 4) S.nd rfl (by first | exact .inl rfl | exact .inr rfl) (h j)) (e_call (RX := RX) O_shifts_from (by decide) G_shifts_from F_shifts_from.kp (F_shifts_from.bindsN fun _ _ _ _ _ _ us hl => match us, hl with | [_, _, _], _ => rfl) hE ni (a_cons (e_var 1 (fun _ => pv 1)) (a_cons (e_len B.len (a_cons (e_ix (e_var 3 (fun _ => pv 3)) (e_int)) a_nil) (fun _ => rfl)) (a_cons (e_var 2 (fun _ => pv 2)) a_nil))) (fun _ => rfl))) (s_cons (s_if (tc c_gt (e_mulX (e_ix (e_var 3 (fun _ => pv 3)) (e_int)) (e_var 1 (fun _ => pv 1))) (e_gint c_MOST_PLACES_turnings (fun _ => rfl)) (nomark _)) (s_one (s_raise T_TooMany (by decide) (a_cons (e_str) (a_cons (e_mulX (e_ix (e_var 3 (fun _ => pv 3)) (e_int)) (e_var 1 (fun _ => pv 1))) (a_cons (e_gint c_MOST_PLACES_turnings (fun _ => rfl)) a_nil))) hE ni (fun _ => body_takes) (fun _ => rfl))) (s_nil)) (s_cons (s_if (tc c_gt (e_mulX (e_len B.len (a_cons (e_ix (e_var 3 (fun _ => pv 3)) (e_int)) a_nil) (fun _ => rfl)) (e_var 1 (fun _ => pv 1))) (e_gint c_MOST_TIES_turnings (fun _ => rfl)) (nomark _)) (s_one (s_raise T_TooMany (by decide) (a_cons (e_str) (a_cons (e_mulX (e_len B.len (a_cons (e_ix (e_var 3 (fun _ => pv 3)) (e_int)) a_nil) (fun _ => rfl)) (e_var 1 (fun _ => pv 1))) (a_cons (e_gint c_MOST_TIES_turnings (fun _ => rfl)) a_nil))) hE ni (fun _ => body_takes) (fun _ => rfl))) (s_nil)) (s_cons (s_parR (i := 5) (j := 6) (by decide) (fun t u h1 h2 q => ps_par (i := 5) (j := 6) rfl S.nd rfl rfl (by decide) rfl rfl (pa_cons (h1 q) (pa_cons (h2 q) pa_nil)) rfl) (p_own (l_lst a_nil)) (p_own (l_lst a_nil))) (s_cons (s_for (fun _ => body_own) (id_enum (a_cons (e_ix (e_var 3 (fun _ => pv 3)) (e_int)) a_nil) (fun _ => rfl) B.enumerate) (g_tup 2 (gs_cons (g_name 7 (fun _ => pg_name (i := 7) S.nd rfl (by first | exact .inl rfl | exact .inr rfl))) (gs_cons (g_name 8 (fun _ => pg_name (i := 8) S.nd rfl (by first | exact .inl rfl | exact .inr rfl))) gs_nil))) (s_one (s_for (fun _ => body_own) (id_rng (a_cons (e_var 1 (fun _ => pv 1)) a_nil) (fun _ => rfl) B.range) (g_name 9 (fun _ => pg_name (i := 9) S.nd rfl (by first | exact .inl rfl | exact .inr rfl))) (s_cons (s_append 5 (fun _ => pv 5) (e_tup (a_cons (e_addX (e_mulX (e_ix (e_var 8 (fun _ => pv 8)) (e_int)) (e_var 1 (fun _ => pv 1))) (e_var 9 (fun _ => pv 9))) (a_cons (e_addX (e_mulX (e_ix (e_var 8 (fun _ => pv 8)) (e_int)) (e_var 1 (fun _ => pv 1))) (e_mod (e_addX (e_var 9 (fun _ => pv 9)) (e_ix (e_var 4 (fun _ => pv 4)) (e_var 7 (fun _ => pv 7)))) (e_var 1 (fun _ => pv 1)))) a_nil)))) (s_one (s_append 6 (fun _ => pv 6) (e_tup (a_cons (e_var 7 (fun _ => pv 7)) (a_cons (e_bl) a_nil))))))))) (s_frz 6 (s_frz 5 (s_cons (s_setR (fun t h j => ps_set (i := 10) S.nd rfl (by first | exact .inl rfl | exact .inr rfl) (h j)) (e_tuple B.tuple (a_cons (e_fz (l_lc (own := [("place", 11)]) (fun _ => blkOk_by (own := [("place", 11)]) (N := ["web", "m", "shifts", "made", "some", "ties", "ends", "number", "tie", "k", "names", "place"]) (sc := defScope (top 32)) (by decide +kernel)) (fun _ => S.nd) (id_rng (a_cons (e_mulX (e_ix (e_var 3 (fun _ => pv 3)) (e_int)) (e_var 1 (fun _ => pv 1))) a_nil) (fun _ => rfl) B.range) (g_name 11 (fun _ => pg_name (i := 11) S.nd rfl (by first | exact .inl rfl | exact .inr rfl))) ts_nil (e_fdiv (e_var 11 (fun _ => pv 11)) (e_var 1 (fun _ => pv 1))))) a_nil) (fun _ => rfl))) (s_one (s_ret (e_tup (a_cons (e_tup (a_cons (e_mulX (e_ix (e_var 3 (fun _ => pv 3)) (e_int)) (e_var 1 (fun _ => pv 1))) (a_cons (e_tuple B.tuple (a_cons (e_var 5 (fun _ => pv 5)) a_nil) (fun _ => rfl)) a_nil))) (a_cons (e_tup (a_cons (e_var 10 (fun _ => pv 10)) (a_cons (e_tuple B.tuple (a_cons (e_var 6 (fun _ => pv 6)) a_nil) (fun _ => rfl)) a_nil))) a_nil)))))))))))))), fun ds c R h => h.2⟩
theorem sc__law_pick : FnScope ["pen", "some"] ["pen", "some"] (defScope (top 36)) := ⟨rfl, rfl, rfl, by decide +kernel, rfl, by decide +kernel, by decide +kernel⟩
def Ok__law_pick (P : Program) (w : World) (K : PySem.W.Frag) (mg : Str → Option Value) (base : Heap) (T : List (Addr × Str)) (gm : Gm) : Prop := ∃ f fd, Gd.FnG P w K mg base (L2.CX P w) 2 f fd ["pen", "some"] (spF true T (Ψ__law_pick gm)) ∧ FnP K "_law_pick" (top 36) f fd ∧ mg "_law_pick" = some (.ref f)
theorem ok__law_pick (B : Bs mg) (Sy : Sys K) (Fd : FnP K "_law_pick" (top 36) f fd) (h__law_draw : Ok__law_draw P w K mg base T gm) (gl : mg "_law_pick" = some (.ref f)) : Ok__law_pick P w K mg base T gm := by
  obtain ⟨f__law_draw, fd__law_draw, O__law_draw, F__law_draw, G__law_draw⟩ := h__law_draw
  have S := sc__law_pick
  refine ⟨f, fd, fn_of Fd S (fun ds c R RX h => by have := h.1; simp [this]) (fun cdv A outer s H E hr hG M RX hH hp ht ni hE => ?_), Fd, gl⟩
  exact ⟨_, s_one (s_ret (e_ix (e_var 1 (fun _ => pv 1)) (e_callP (RX := RX) 0 O__law_draw (by decide) G__law_draw F__law_draw.kp (F__law_draw.bindsN fun _ _ _ _ _ _ us hl => match us, hl with | [_, _], _ => rfl) hE ni ht (fun _ => pv 0) (a_cons (e_len B.len (a_cons (e_var 1 (fun _ => pv 1)) a_nil) (fun _ => rfl)) a_nil) (fun _ => rfl)))), fun ds c R h => h.2⟩
theorem sc__law_shuffled : FnScope ["pen", "some", "left", "found", "lap"] ["pen", "some"] (defScope (top 37)) := ⟨rfl, rfl, rfl, by decide +kernel, rfl, by decide +kernel, by decide +kernel⟩
def Ok__law_shuffled (P : Program) (w : World) (K : PySem.W.Frag) (mg : Str → Option Value) (base : Heap) (T : List (Addr × Str)) (gm : Gm) : Prop := ∃ f fd, Gd.FnG P w K mg base (L2.CX P w) 2 f fd ["pen", "some"] (spF true T (Ψ__law_shuffled gm)) ∧ FnP K "_law_shuffled" (top 37) f fd ∧ mg "_law_shuffled" = some (.ref f)
theorem ok__law_shuffled (B : Bs mg) (Sy : Sys K) (Fd : FnP K "_law_shuffled" (top 37) f fd) (h__law_draw : Ok__law_draw P w K mg base T gm) (gl : mg "_law_shuffled" = some (.ref f)) : Ok__law_shuffled P w K mg base T gm := by
  obtain ⟨f__law_draw, fd__law_draw, O__law_draw, F__law_draw, G__law_draw⟩ := h__law_draw
  have S := sc__law_shuffled
  refine ⟨f, fd, fn_of Fd S (fun ds c R RX h => by have := h.1; simp [this]) (fun cdv A outer s H E hr hG M RX hH hp ht ni hE => ?_), Fd, gl⟩
  exact ⟨_, s_cons (s_parR (i := 2) (j := 3) (by decide) (fun t u h1 h2 q => ps_par (i := 2) (j := 3) rfl S.nd rfl rfl (by decide) rfl rfl (pa_cons (h1 q) (pa_cons (h2 q) pa_nil)) rfl) (p_own (l_list B.list (a_cons (e_var 1 (fun _ => pv 1)) a_nil) (fun _ => rfl))) (p_own (l_lst a_nil))) (s_cons (s_for (fun _ => body_own) (id_rng (a_cons (e_len B.len (a_cons (e_var 1 (fun _ => pv 1)) a_nil) (fun _ => rfl)) a_nil) (fun _ => rfl) B.range) (g_name 4 (fun _ => pg_name (i := 4) S.nd rfl (by first | exact .inl rfl | exact .inr rfl))) (s_one (s_append 3 (fun _ => pv 3) (e_popO 2 (fun _ => pv 2) (e_callP (RX := RX) 0 O__law_draw (by decide) G__law_draw F__law_draw.kp (F__law_draw.bindsN fun _ _ _ _ _ _ us hl => match us, hl with | [_, _], _ => rfl) hE ni ht (fun _ => pv 0) (a_cons (e_lenO B.len 2 (fun _ => pv 2) (fun _ => rfl)) a_nil) (fun _ => rfl)))))) (s_frz 3 (s_one (s_ret (e_var 3 (fun _ => pv 3)))))), fun ds c R h => h.2⟩
theorem sc__law_gcd : FnScope ["one", "two", "lap"] ["one", "two"] (defScope (top 38)) := ⟨rfl, rfl, rfl, by decide +kernel, rfl, by decide +kernel, by decide +kernel⟩
def Ok__law_gcd (P : Program) (w : World) (K : PySem.W.Frag) (mg : Str → Option Value) (base : Heap) (T : List (Addr × Str)) (gm : Gm) : Prop := ∃ f fd, Gd.FnG P w K mg base (L2.CX P w) 1 f fd ["one", "two"] (spF false [] (Ψ__law_gcd gm)) ∧ FnP K "_law_gcd" (top 38) f fd ∧ mg "_law_gcd" = some (.ref f)
theorem ok__law_gcd (B : Bs mg) (Sy : Sys K) (Fd : FnP K "_law_gcd" (top 38) f fd) (gl : mg "_law_gcd" = some (.ref f)) : Ok__law_gcd P w K mg base T gm := by
  have S := sc__law_gcd
  refine ⟨f, fd, fn_of Fd S (fun ds c R RX h => by have := h.1; simp [this]) (fun cdv A outer s H E hr hG M RX hH hp ht ni hE => ?_), Fd, gl⟩
  exact ⟨_, s_cons (s_parR (i := 0) (j := 1) (by decide) (fun t u h1 h2 q => ps_par (i := 0) (j := 1) rfl S.nd rfl rfl (by decide) rfl rfl (pa_cons (h1 q) (pa_cons (h2 q) pa_nil)) rfl) (p_d (e_abs B.abs (a_cons (e_var 0 (fun _ => pv 0)) a_nil) (fun _ => rfl))) (p_d (e_abs B.abs (a_cons (e_var 1 (fun _ => pv 1)) a_nil) (fun _ => rfl)))) (s_cons (s_for (fun _ => body_own) (id_rng (a_cons (e_addX (e_int) (e_mulX (e_int) (e_bits (e_intc B.int (a_cons (e_var 1 (fun _ => pv 1)) a_nil) (fun _ => rfl))))) a_nil) (fun _ => rfl) B.range) (g_name 2 (fun _ => pg_name (i := 2) S.nd rfl (by first | exact .inl rfl | exact .inr rfl))) (s_cons (s_if (tc c_eq (e_var 1 (fun _ => pv 1)) (e_int) (nomark _)) (s_one (s_break)) (s_nil)) (s_one (s_parR (i := 0) (j := 1) (by decide) (fun t u h1 h2 q => ps_par (i := 0) (j := 1) rfl S.nd rfl rfl (by decide) rfl rfl (pa_cons (h1 q) (pa_cons (h2 q) pa_nil)) rfl) (p_d (e_var 1 (fun _ => pv 1))) (p_d (e_mod (e_intc B.int (a_cons (e_var 0 (fun _ => pv 0)) a_nil) (fun _ => rfl)) (e_var 1 (fun _ => pv 1)))))))) (s_one (s_ret (e_var 0 (fun _ => pv 0))))), fun ds c R h => h.2⟩
theorem sc__law_are_due : FnScope ["tries", "work", "due"] ["tries"] (defScope (top 40)) := ⟨rfl, rfl, rfl, by decide +kernel, rfl, by decide +kernel, by decide +kernel⟩
def Ok__law_are_due (P : Program) (w : World) (K : PySem.W.Frag) (mg : Str → Option Value) (base : Heap) (T : List (Addr × Str)) (gm : Gm) : Prop := ∃ f fd, Gd.FnG P w K mg base (L2.CX P w) 41 f fd ["tries"] (spF false [] (Ψ__law_are_due gm)) ∧ FnP K "_law_are_due" (top 40) f fd ∧ mg "_law_are_due" = some (.ref f)
theorem ok__law_are_due (B : Bs mg) (Sy : Sys K) (Fd : FnP K "_law_are_due" (top 40) f fd) (h__law_fault : Ok__law_fault P w K mg base T gm) (gl : mg "_law_are_due" = some (.ref f)) : Ok__law_are_due P w K mg base T gm := by
  obtain ⟨f__law_fault, fd__law_fault, O__law_fault, F__law_fault, G__law_fault, O0__law_fault⟩ := h__law_fault
  have S := sc__law_are_due
  refine ⟨f, fd, fn_of Fd S (fun ds c R RX h => by have := h.1; simp [this]) (fun cdv A outer s H E hr hG M RX hH hp ht ni hE => ?_), Fd, gl⟩
  exact ⟨_, s_one (s_ret (e_all B.all (a_cons (e_fz (l_lc (own := [("work", 1), ("due", 2)]) (fun _ => blkOk_by (own := [("work", 1), ("due", 2)]) (N := ["tries", "work", "due"]) (sc := defScope (top 40)) (by decide +kernel)) (fun _ => S.nd) (id_seq2 (e_var 0 (fun _ => pv 0))) (g_tup 2 (gs_cons (g_name 1 (fun _ => pg_name (i := 1) S.nd rfl (by first | exact .inl rfl | exact .inr rfl))) (gs_cons (g_name 2 (fun _ => pg_name (i := 2) S.nd rfl (by first | exact .inl rfl | exact .inr rfl))) gs_nil))) ts_nil (ec c_eq (e_repr Sy (by decide) B.repr (a_cons (e_call (RX := (fun _ _ => False)) O__law_fault (by decide) G__law_fault F__law_fault.kp (F__law_fault.bindsN fun _ _ _ _ _ _ us hl => match us, hl with | [_], _ => rfl) (fun _ _ _ _ _ _ z => z.elim) ni (a_cons (e_var 1 (fun _ => pv 1)) a_nil) (fun _ => rfl)) a_nil) (fun _ => rfl)) (e_repr Sy (by decide) B.repr (a_cons (e_var 2 (fun _ => pv 2)) a_nil) (fun _ => rfl)) (nomark _)))) a_nil) (fun _ => rfl))), fun ds c R h => h.2⟩
theorem sc__law_no_number : FnScope ["pen", "low", "high"] ["pen", "low", "high"] (defScope (top 41)) := ⟨rfl, rfl, rfl, by decide +kernel, rfl, by decide +kernel, by decide +kernel⟩
def Ok__law_no_number (P : Program) (w : World) (K : PySem.W.Frag) (mg : Str → Option Value) (base : Heap) (T : List (Addr × Str)) (gm : Gm) : Prop := ∃ f fd, Gd.FnG P w K mg base (L2.CX P w) 3 f fd ["pen", "low", "high"] (spF true T (Ψ__law_no_number gm)) ∧ FnP K "_law_no_number" (top 41) f fd ∧ mg "_law_no_number" = some (.ref f)
theorem ok__law_no_number (B : Bs mg) (Sy : Sys K) (Fd : FnP K "_law_no_number" (top 41) f fd) (h__law_pick : Ok__law_pick P w K mg base T gm) (gl : mg "_law_no_number" = some (.ref f)) : Ok__law_no_number P w K mg base T gm := by
  obtain ⟨f__law_pick, fd__law_pick, O__law_pick, F__law_pick, G__law_pick⟩ := h__law_pick
  have S := sc__law_no_number
  refine ⟨f, fd, fn_of Fd S (fun ds c R RX h => by have := h.1; simp [this]) (fun cdv A outer s H E hr hG M RX hH hp ht ni hE => ?_), Fd, gl⟩
  exact ⟨_, s_one (s_ret (e_callP (RX := RX) 0 O__law_pick (by decide) G__law_pick F__law_pick.kp (F__law_pick.bindsN fun _ _ _ _ _ _ us hl => match us, hl with | [_, _], _ => rfl) hE ni ht (fun _ => pv 0) (a_cons (e_fz (l_lst (a_cons (e_sub (e_var 1 (fun _ => pv 1)) (e_int)) (a_cons (e_addX (e_var 2 (fun _ => pv 2)) (e_int)) (a_cons (e_non) (a_cons (e_bl) (a_cons (e_str) (a_cons (e_tup (a_cons (e_int) a_nil)) (a_cons (e_sub (e_var 1 (fun _ => pv 1)) (e_int)) a_nil))))))))) a_nil) (fun _ => rfl))), fun ds c R h => h.2⟩
theorem sc__law_plain_web : FnScope ["pen", "most", "ties", "places", "found", "lap"] ["pen", "most", "ties"] (defScope (top 42)) := ⟨rfl, rfl, rfl, by decide +kernel, rfl, by decide +kernel, by decide +kernel⟩
def Ok__law_plain_web (P : Program) (w : World) (K : PySem.W.Frag) (mg : Str → Option Value) (base : Heap) (T : List (Addr × Str)) (gm : Gm) : Prop := ∃ f fd, Gd.FnG P w K mg base (L2.CX P w) 3 f fd ["pen", "most", "ties"] (spF true T (Ψ__law_plain_web gm)) ∧ FnP K "_law_plain_web" (top 42) f fd ∧ mg "_law_plain_web" = some (.ref f)
theorem ok__law_plain_web (B : Bs mg) (Sy : Sys K) (Fd : FnP K "_law_plain_web" (top 42) f fd) (h__law_draw : Ok__law_draw P w K mg base T gm) (h__law_shuffled : Ok__law_shuffled P w K mg base T gm) (gl : mg "_law_plain_web" = some (.ref f)) : Ok__law_plain_web P w K mg base T gm := by
  obtain ⟨f__law_draw, fd__law_draw, O__law_draw, F__law_draw, G__law_draw⟩ := h__law_draw
  obtain ⟨f__law_shuffled, fd__law_shuffled, O__law_shuffled, F__law_shuffled, G__law_shuffled⟩ := h__law_shuffled
  have S := sc__law_plain_web
  refine ⟨f, fd, fn_of Fd S (fun ds c R RX h => by have := h.1; simp [this]) (fun cdv A outer s H E hr hG M RX hH hp ht ni hE => ?_), Fd, gl⟩
  exact ⟨_, s_cons (s_setR (fun t h j => ps_set (i := 3) S.nd rfl (by first | exact .inl rfl | exact .inr rfl) (h j)) (e_addX (e_int) (e_callP (RX := RX) 0 O__law_draw (by decide) G__law_draw F__law_draw.kp (F__law_draw.bindsN fun _ _ _ _ _ _ us hl => match us, hl with | [_, _], _ => rfl) hE ni ht (fun _ => pv 0) (a_cons (e_var 1 (fun _ => pv 1)) a_nil) (fun _ => rfl)))) (s_cons (s_ownR (fun t h j => ps_set (i := 4) S.nd rfl (by first | exact .inl rfl | exact .inr rfl) (h j)) (l_lst a_nil)) (s_cons (s_if (tc c_gt (e_var 3 (fun _ => pv 3)) (e_int) (nomark _)) (s_one (s_for (fun _ => body_own) (id_rng (a_cons (e_callP (RX := RX) 0 O__law_draw (by decide) G__law_draw F__law_draw.kp (F__law_draw.bindsN fun _ _ _ _ _ _ us hl => match us, hl with | [_, _], _ => rfl) hE ni ht (fun _ => pv 0) (a_cons (e_addX (e_var 2 (fun _ => pv 2)) (e_int)) a_nil) (fun _ => rfl)) a_nil) (fun _ => rfl) B.range) (g_name 5 (fun _ => pg_name (i := 5) S.nd rfl (by first | exact .inl rfl | exact .inr rfl))) (s_one (s_append 4 (fun _ => pv 4) (e_tuple B.tuple (a_cons (e_cut (e_callP (RX := RX) 0 O__law_shuffled (by decide) G__law_shuffled F__law_shuffled.kp (F__law_shuffled.bindsN fun _ _ _ _ _ _ us hl => match us, hl with | [_, _], _ => rfl) hE ni ht (fun _ => pv 0) (a_cons (e_fz (l_lrange B.list B.range (e_var 3 (fun _ => pv 3)) (fun _ => rfl) (fun _ => rfl))) a_nil) (fun _ => rfl)) o_none (o_some (e_int))) a_nil) (fun _ => rfl)))))) (s_nil)) (s_frz 4 (s_one (s_ret (e_tup (a_cons (e_var 3 (fun _ => pv 3)) (a_cons (e_tuple B.tuple (a_cons (e_var 4 (fun _ => pv 4)) a_nil) (fun _ => rfl)) a_nil)))))))), fun ds c R h => h.2⟩
theorem sc__law_own : FnScope ["web", "m", "shifts", "ties", "ends", "number", "i", "j", "k", "names", "place"] ["web", "m", "shifts"] (defScope (top 43)) := ⟨rfl, rfl, rfl, by decide +kernel, rfl, by decide +kernel, by decide +kernel⟩
def Ok__law_own (P : Program) (w : World) (K : PySem.W.Frag) (mg : Str → Option Value) (base : Heap) (T : List (Addr × Str)) (gm : Gm) : Prop := ∃ f fd, Gd.FnG P w K mg base (L2.CX P w) 1 f fd ["web", "m", "shifts"] (spF false [] (Ψ__law_own gm)) ∧ FnP K "_law_own" (top 43) f fd ∧ mg "_law_own" = some (.ref f)
theorem ok__law_own (B : Bs mg) (Sy : Sys K) (Fd : FnP K "_law_own" (top 43) f fd) (gl : mg "_law_own" = some (.ref f)) : Ok__law_own P w K mg base T gm := by
  have S := sc__law_own
  refine ⟨f, fd, fn_of Fd S (fun ds c R RX h => by have := h.1; simp [this]) (fun cdv A outer s H E hr hG M RX hH hp ht ni hE => ?_), Fd, gl⟩
  exact ⟨_, s_cons (s_parR (i := 3) (j := 4) (by decide) (fun t u h1 h2 q => ps_par (i := 3) (j := 4) rfl S.nd rfl rfl (by decide) rfl rfl (pa_cons (h1 q) (pa_cons (h2 q) pa_nil)) rfl) (p_own (l_lst a_nil)) (p_own (l_lst a_nil))) (s_cons (s_for (fun _ => body_own) (id_rng (a_cons (e_len B.len (a_cons (e_ix (e_var 0 (fun _ => pv 0)) (e_int)) a_nil) (fun _ => rfl)) a_nil) (fun _ => rfl) B.range) (g_name 5 (fun _ => pg_name (i := 5) S.nd rfl (by first | exact .inl rfl | exact .inr rfl))) (s_cons (s_asg (e_ix (e_ix (e_var 0 (fun _ => pv 0)) (e_int)) (e_var 5 (fun _ => pv 5))) (g_tup 2 (gs_cons (g_name 6 (fun _ => pg_name (i := 6) S.nd rfl (by first | exact .inl rfl | exact .inr rfl))) (gs_cons (g_name 7 (fun _ => pg_name (i := 7) S.nd rfl (by first | exact .inl rfl | exact .inr rfl))) gs_nil)))) (s_one (s_for (fun _ => body_own) (id_rng (a_cons (e_var 1 (fun _ => pv 1)) a_nil) (fun _ => rfl) B.range) (g_name 8 (fun _ => pg_name (i := 8) S.nd rfl (by first | exact .inl rfl | exact .inr rfl))) (s_cons (s_append 3 (fun _ => pv 3) (e_tup (a_cons (e_addX (e_mulX (e_var 6 (fun _ => pv 6)) (e_var 1 (fun _ => pv 1))) (e_var 8 (fun _ => pv 8))) (a_cons (e_addX (e_mulX (e_var 7 (fun _ => pv 7)) (e_var 1 (fun _ => pv 1))) (e_mod (e_intc B.int (a_cons (e_addX (e_var 8 (fun _ => pv 8)) (e_ix (e_var 2 (fun _ => pv 2)) (e_var 5 (fun _ => pv 5)))) a_nil) (fun _ => rfl)) (e_var 1 (fun _ => pv 1)))) a_nil)))) (s_one (s_append 4 (fun _ => pv 4) (e_tup (a_cons (e_var 5 (fun _ => pv 5)) (a_cons (e_bl) a_nil)))))))))) (s_frz 4 (s_frz 3 (s_cons (s_setR (fun t h j => ps_set (i := 9) S.nd rfl (by first | exact .inl rfl | exact .inr rfl) (h j)) (e_fz (l_lst a_nil))) (s_cons (s_for (fun _ => body_own) (id_rng (a_cons (e_ix (e_var 0 (fun _ => pv 0)) (e_int)) a_nil) (fun _ => rfl) B.range) (g_name 10 (fun _ => pg_name (i := 10) S.nd rfl (by first | exact .inl rfl | exact .inr rfl))) (s_one (s_setR (fun t h j => ps_set (i := 9) S.nd rfl (by first | exact .inl rfl | exact .inr rfl) (h j)) (e_addX (e_var 9 (fun _ => pv 9)) (e_mulX (e_fz (l_lst (a_cons (e_var 10 (fun _ => pv 10)) a_nil))) (e_var 1 (fun _ => pv 1))))))) (s_one (s_ret (e_tup (a_cons (e_tup (a_cons (e_mulX (e_ix (e_var 0 (fun _ => pv 0)) (e_int)) (e_var 1 (fun _ => pv 1))) (a_cons (e_tuple B.tuple (a_cons (e_var 3 (fun _ => pv 3)) a_nil) (fun _ => rfl)) a_nil))) (a_cons (e_tup (a_cons (e_tuple B.tuple (a_cons (e_var 9 (fun _ => pv 9)) a_nil) (fun _ => rfl)) (a_cons (e_tuple B.tuple (a_cons (e_var 4 (fun _ => pv 4)) a_nil) (fun _ => rfl)) a_nil))) a_nil)))))))))), fun ds c R h => h.2⟩
theorem sc__law_lots : FnScope ["places", "ties", "marks", "i", "j", "low", "high", "mark"] ["places", "ties"] (defScope (top 44)) := ⟨rfl, rfl, rfl, by decide +kernel, rfl, by decide +kernel, by decide +kernel⟩
def Ok__law_lots (P : Program) (w : World) (K : PySem.W.Frag) (mg : Str → Option Value) (base : Heap) (T : List (Addr × Str)) (gm : Gm) : Prop := ∃ f fd, Gd.FnG P w K mg base (L2.CX P w) 1 f fd ["places", "ties"] (spF false [] (Ψ__law_lots gm)) ∧ FnP K "_law_lots" (top 44) f fd ∧ mg "_law_lots" = some (.ref f)
theorem ok__law_lots (B : Bs mg) (Sy : Sys K) (Fd : FnP K "_law_lots" (top 44) f fd) (gl : mg "_law_lots" = some (.ref f)) : Ok__law_lots P w K mg base T gm := by
  have S := sc__law_lots
  refine ⟨f, fd, fn_of Fd S (fun ds c R RX h => by have := h.1; simp [this]) (fun cdv A outer s H E hr hG M RX hH hp ht ni hE => ?_), Fd, gl⟩
  exact ⟨_, s_cons (s_setR (fun t h j => ps_set (i := 2) S.nd rfl (by first | exact .inl rfl | exact .inr rfl) (h j)) (e_fz (l_lrange B.list B.range (e_var 0 (fun _ => pv 0)) (fun _ => rfl) (fun _ => rfl)))) (s_cons (s_for (fun _ => body_own) (id_seq2 (e_var 1 (fun _ => pv 1))) (g_tup 2 (gs_cons (g_name 3 (fun _ => pg_name (i := 3) S.nd rfl (by first | exact .inl rfl | exact .inr rfl))) (gs_cons (g_name 4 (fun _ => pg_name (i := 4) S.nd rfl (by first | exact .inl rfl | exact .inr rfl))) gs_nil))) (s_cons (s_asg (e_tup (a_cons (e_min2 B.min (a_cons (e_ix (e_var 2 (fun _ => pv 2)) (e_var 3 (fun _ => pv 3))) (a_cons (e_ix (e_var 2 (fun _ => pv 2)) (e_var 4 (fun _ => pv 4))) a_nil)) (fun _ => rfl)) (a_cons (e_max2 B.max (a_cons (e_ix (e_var 2 (fun _ => pv 2)) (e_var 3 (fun _ => pv 3))) (a_cons (e_ix (e_var 2 (fun _ => pv 2)) (e_var 4 (fun _ => pv 4))) a_nil)) (fun _ => rfl)) a_nil))) (g_tup 2 (gs_cons (g_name 5 (fun _ => pg_name (i := 5) S.nd rfl (by first | exact .inl rfl | exact .inr rfl))) (gs_cons (g_name 6 (fun _ => pg_name (i := 6) S.nd rfl (by first | exact .inl rfl | exact .inr rfl))) gs_nil)))) (s_one (s_setLc 2 (own := [("mark", 7)]) (fun _ => rfl) (fun _ => rfl) (fun _ => rfl) (fun _ => blkOk_by (own := [("mark", 7)]) (N := ["places", "ties", "marks", "i", "j", "low", "high", "mark"]) (sc := defScope (top 44)) (by decide +kernel)) (fun _ => S.nd) (id_seq2 (e_var 2 (fun _ => pv 2))) (g_name 7 (fun _ => pg_name (i := 7) S.nd rfl (by first | exact .inl rfl | exact .inr rfl))) ts_nil (e_if (tc c_eq (e_var 7 (fun _ => pv 7)) (e_var 6 (fun _ => pv 6)) (nomark _)) (e_var 5 (fun _ => pv 5)) (e_var 7 (fun _ => pv 7))))))) (s_one (s_ret (e_len B.len (a_cons (e_sortSet B.sorted B.set (e_var 2 (fun _ => pv 2)) (fun _ => rfl) (fun _ => rfl)) a_nil) (fun _ => rfl))))), fun ds c R h => h.2⟩
theorem sc__law_rounds : FnScope ["web", "m", "shifts", "heights", "by", "lap", "number", "i", "j"] ["web", "m", "shifts"] (defScope (top 45)) := ⟨rfl, rfl, rfl, by decide +kernel, rfl, by decide +kernel, by decide +kernel⟩
def Ok__law_rounds (P : Program) (w : World) (K : PySem.W.Frag) (mg : Str → Option Value) (base : Heap) (T : List (Addr × Str)) (gm : Gm) : Prop := ∃ f fd, Gd.FnG P w K mg base (L2.CX P w) 2 f fd ["web", "m", "shifts"] (spF false [] (Ψ__law_rounds gm)) ∧ FnP K "_law_rounds" (top 45) f fd ∧ mg "_law_rounds" = some (.ref f)
theorem ok__law_rounds (B : Bs mg) (Sy : Sys K) (Fd : FnP K "_law_rounds" (top 45) f fd) (h__law_gcd : Ok__law_gcd P w K mg base T gm) (gl : mg "_law_rounds" = some (.ref f)) : Ok__law_rounds P w K mg base T gm := by
  obtain ⟨f__law_gcd, fd__law_gcd, O__law_gcd, F__law_gcd, G__law_gcd⟩ := h__law_gcd
  have S := sc__law_rounds
  refine ⟨f, fd, fn_of Fd S (fun ds c R RX h => by have := h.1; simp [this]) (fun cdv A outer s H E hr hG M RX hH hp ht ni hE => ?_), Fd, gl⟩
  exact ⟨_, s_cons (s_parR (i := 3) (j := 4) (by decide) (fun t u h1 h2 q => ps_par (i := 3) (j := 4) rfl S.nd rfl rfl (by decide) rfl rfl (pa_cons (h1 q) (pa_cons (h2 q) pa_nil)) rfl) (p_dict1 (e_int)) (p_d (e_var 1 (fun _ => pv 1)))) (s_cons (s_for (fun _ => body_own) (id_rng (a_cons (e_ix (e_var 0 (fun _ => pv 0)) (e_int)) a_nil) (fun _ => rfl) B.range) (g_name 5 (fun _ => pg_name (i := 5) S.nd rfl (by first | exact .inl rfl | exact .inr rfl))) (s_one (s_for (fun _ => body_own) (id_rng (a_cons (e_len B.len (a_cons (e_ix (e_var 0 (fun _ => pv 0)) (e_int)) a_nil) (fun _ => rfl)) a_nil) (fun _ => rfl) B.range) (g_name 6 (fun _ => pg_name (i := 6) S.nd rfl (by first | exact .inl rfl | exact .inr rfl))) (s_cons (s_asg (e_ix (e_ix (e_var 0 (fun _ => pv 0)) (e_int)) (e_var 6 (fun _ => pv 6))) (g_tup 2 (gs_cons (g_name 7 (fun _ => pg_name (i := 7) S.nd rfl (by first | exact .inl rfl | exact .inr rfl))) (gs_cons (g_name 8 (fun _ => pg_name (i := 8) S.nd rfl (by first | exact .inl rfl | exact .inr rfl))) gs_nil)))) (s_cons (s_if (t_w (w_and (t_dinO 3 (fun _ => pv 3) (e_var 7 (fun _ => pv 7))) (w_and1 (t_dnotinO 3 (fun _ => pv 3) (e_var 8 (fun _ => pv 8)))))) (s_one (s_dputO 3 (fun _ => pv 3) (e_var 8 (fun _ => pv 8)) (e_addX (e_dgetO 3 (fun _ => pv 3) (e_var 7 (fun _ => pv 7))) (e_ix (e_var 2 (fun _ => pv 2)) (e_var 6 (fun _ => pv 6)))))) (s_nil)) (s_one (s_if (t_w (w_and (t_dinO 3 (fun _ => pv 3) (e_var 8 (fun _ => pv 8))) (w_and1 (t_dnotinO 3 (fun _ => pv 3) (e_var 7 (fun _ => pv 7)))))) (s_one (s_dputO 3 (fun _ => pv 3) (e_var 7 (fun _ => pv 7)) (e_sub (e_dgetO 3 (fun _ => pv 3) (e_var 8 (fun _ => pv 8))) (e_ix (e_var 2 (fun _ => pv 2)) (e_var 6 (fun _ => pv 6)))))) (s_nil)))))))) (s_cons (s_for (fun _ => body_own) (id_rng (a_cons (e_len B.len (a_cons (e_ix (e_var 0 (fun _ => pv 0)) (e_int)) a_nil) (fun _ => rfl)) a_nil) (fun _ => rfl) B.range) (g_name 6 (fun _ => pg_name (i := 6) S.nd rfl (by first | exact .inl rfl | exact .inr rfl))) (s_cons (s_asg (e_ix (e_ix (e_var 0 (fun _ => pv 0)) (e_int)) (e_var 6 (fun _ => pv 6))) (g_tup 2 (gs_cons (g_name 7 (fun _ => pg_name (i := 7) S.nd rfl (by first | exact .inl rfl | exact .inr rfl))) (gs_cons (g_name 8 (fun _ => pg_name (i := 8) S.nd rfl (by first | exact .inl rfl | exact .inr rfl))) gs_nil)))) (s_one (s_setR (fun t h j => ps_set (i := 4) S.nd rfl (by first | exact .inl rfl | exact .inr rfl) (h j)) (e_call (RX := RX) O__law_gcd (by decide) G__law_gcd F__law_gcd.kp (F__law_gcd.bindsN fun _ _ _ _ _ _ us hl => match us, hl with | [_, _], _ => rfl) hE ni (a_cons (e_var 4 (fun _ => pv 4)) (a_cons (e_sub (e_addX (e_dgetO 3 (fun _ => pv 3) (e_var 7 (fun _ => pv 7))) (e_ix (e_var 2 (fun _ => pv 2)) (e_var 6 (fun _ => pv 6)))) (e_dgetO 3 (fun _ => pv 3) (e_var 8 (fun _ => pv 8)))) a_nil)) (fun _ => rfl)))))) (s_one (s_ret (e_var 4 (fun _ => pv 4)))))), fun ds c R h => h.2⟩
theorem sc__law_case : FnScope ["pen", "m", "web", "shifts", "tie", "handed", "row", "above", "way"] ["pen"] (defScope (top 46)) := ⟨rfl, rfl, rfl, by decide +kernel, rfl, by decide +kernel, by decide +kernel⟩
def Ok__law_case (P : Program) (w : World) (K : PySem.W.Frag) (mg : Str → Option Value) (base : Heap) (T : List (Addr × Str)) (gm : Gm) : Prop := ∃ f fd, Gd.FnG P w K mg base (L2.CX P w) 41 f fd ["pen"] (spF true T (Ψ__law_case gm)) ∧ FnP K "_law_case" (top 46) f fd ∧ mg "_law_case" = some (.ref f)
theorem ok__law_case (B : Bs mg) (Sy : Sys K) (Fd : FnP K "_law_case" (top 46) f fd) (h__law_draw : Ok__law_draw P w K mg base T gm) (h__law_plain_web : Ok__law_plain_web P w K mg base T gm) (h__law_pick : Ok__law_pick P w K mg base T gm) (h__law_fault : Ok__law_fault P w K mg base T gm) (h_cover_by : Ok_cover_by P w K mg base T gm) (h__law_own : Ok__law_own P w K mg base T gm) (h_is_cover : Ok_is_cover P w K mg base T gm) (h_is_web_map : Ok_is_web_map P w K mg base T gm) (h__law_lots : Ok__law_lots P w K mg base T gm) (h__law_rounds : Ok__law_rounds P w K mg base T gm) (hl : ∃ c Pt, fd.code = .ref c ∧ LamX.TabB base mg c Pt ∧ (Pt, ("_law_case.<locals>.<lambda>" : Str)) ∈ T ∧ ∀ p ∈ T, p.1 = Pt → p.2 = ("_law_case.<locals>.<lambda>" : Str)) (gl : mg "_law_case" = some (.ref f)) : Ok__law_case P w K mg base T gm := by
  obtain ⟨f__law_draw, fd__law_draw, O__law_draw, F__law_draw, G__law_draw⟩ := h__law_draw
  obtain ⟨f__law_plain_web, fd__law_plain_web, O__law_plain_web, F__law_plain_web, G__law_plain_web⟩ := h__law_plain_web
  obtain ⟨f__law_pick, fd__law_pick, O__law_pick, F__law_pick, G__law_pick⟩ := h__law_pick
  obtain ⟨f__law_fault, fd__law_fault, O__law_fault, F__law_fault, G__law_fault, O0__law_fault⟩ := h__law_fault
  obtain ⟨f_cover_by, fd_cover_by, O_cover_by, F_cover_by, G_cover_by⟩ := h_cover_by
  obtain ⟨f__law_own, fd__law_own, O__law_own, F__law_own, G__law_own⟩ := h__law_own
  obtain ⟨f_is_cover, fd_is_cover, O_is_cover, F_is_cover, G_is_cover⟩ := h_is_cover
  obtain ⟨f_is_web_map, fd_is_web_map, O_is_web_map, F_is_web_map, G_is_web_map⟩ := h_is_web_map
  obtain ⟨f__law_lots, fd__law_lots, O__law_lots, F__law_lots, G__law_lots⟩ := h__law_lots
  obtain ⟨f__law_rounds, fd__law_rounds, O__law_rounds, F__law_rounds, G__law_rounds⟩ := h__law_rounds
  obtain ⟨c0, Pt, hcode, TB, hmT0, hu0⟩ := hl
  have S := sc__law_case
  refine ⟨f, fd, fn_ofC Fd S (fun ds c R RX h => by have := h.1; simp [this]) (fun A outer s H E hr hG M RX hH hp ht ni hE => ?_), Fd, gl⟩
  have hmT := hmT0
  have hu := hu0
  rw [← ht] at hmT hu
  exact ⟨_, s_cons (s_setR (fun t h j => ps_set (i := 1) S.nd rfl (by first | exact .inl rfl | exact .inr rfl) (h j)) (e_addX (e_int) (e_callP (RX := RX) 0 O__law_draw (by decide) G__law_draw F__law_draw.kp (F__law_draw.bindsN fun _ _ _ _ _ _ us hl => match us, hl with | [_, _], _ => rfl) hE ni ht (fun _ => pv 0) (a_cons (e_int) a_nil) (fun _ => rfl)))) (s_cons (s_setR (fun t h j => ps_set (i := 2) S.nd rfl (by first | exact .inl rfl | exact .inr rfl) (h j)) (e_callP (RX := RX) 0 O__law_plain_web (by decide) G__law_plain_web F__law_plain_web.kp (F__law_plain_web.bindsN fun _ _ _ _ _ _ us hl => match us, hl with | [_, _, _], _ => rfl) hE ni ht (fun _ => pv 0) (a_cons (e_max2 B.max (a_cons (e_int) (a_cons (e_fdiv (e_int) (e_var 1 (fun _ => pv 1))) a_nil)) (fun _ => rfl)) (a_cons (e_fdiv (e_int) (e_var 1 (fun _ => pv 1))) a_nil)) (fun _ => rfl))) (s_cons (s_if (tc c_eq (e_callP (RX := RX) 0 O__law_draw (by decide) G__law_draw F__law_draw.kp (F__law_draw.bindsN fun _ _ _ _ _ _ us hl => match us, hl with | [_, _], _ => rfl) hE ni ht (fun _ => pv 0) (a_cons (e_int) a_nil) (fun _ => rfl)) (e_int) (nomark _)) (s_one (s_setR (fun t h j => ps_set (i := 2) S.nd rfl (by first | exact .inl rfl | exact .inr rfl) (h j)) (e_callP (RX := RX) 0 O__law_plain_web (by decide) G__law_plain_web F__law_plain_web.kp (F__law_plain_web.bindsN fun _ _ _ _ _ _ us hl => match us, hl with | [_, _, _], _ => rfl) hE ni ht (fun _ => pv 0) (a_cons (e_int) (a_cons (e_int) a_nil)) (fun _ => rfl)))) (s_nil)) (s_cons (s_setR (fun t h j => ps_set (i := 3) S.nd rfl (by first | exact .inl rfl | exact .inr rfl) (h j)) (e_tuple B.tuple (a_cons (e_fz (l_lc (own := [("tie", 4)]) (fun _ => blkOk_by (own := [("tie", 4)]) (N := ["pen", "m", "web", "shifts", "tie", "handed", "row", "above", "way"]) (sc := defScope (top 46)) (by decide +kernel)) (fun _ => S.nd) (id_seq2 (e_ix (e_var 2 (fun _ => pv 2)) (e_int))) (g_name 4 (fun _ => pg_name (i := 4) S.nd rfl (by first | exact .inl rfl | exact .inr rfl))) ts_nil (e_callP (RX := (fun _ _ => False)) 0 O__law_draw (by decide) G__law_draw F__law_draw.kp (F__law_draw.bindsN fun _ _ _ _ _ _ us hl => match us, hl with | [_, _], _ => rfl) (fun _ _ _ _ _ _ z => z.elim) ni ht (fun _ => pv 0) (a_cons (e_var 1 (fun _ => pv 1)) a_nil) (fun _ => rfl)))) a_nil) (fun _ => rfl))) (s_cons (s_asg (e_tup (a_cons (e_callP (RX := RX) 0 O__law_pick (by decide) G__law_pick F__law_pick.kp (F__law_pick.bindsN fun _ _ _ _ _ _ us hl => match us, hl with | [_, _], _ => rfl) hE ni ht (fun _ => pv 0) (a_cons (e_fz (l_lst (a_cons (e_var 2 (fun _ => pv 2)) (a_cons (e_fz (l_lst (a_cons (e_ix (e_var 2 (fun _ => pv 2)) (e_int)) (a_cons (e_fz (l_lc (own := [("tie", 4)]) (fun _ => blkOk_by (own := [("tie", 4)]) (N := ["pen", "m", "web", "shifts", "tie", "handed", "row", "above", "way"]) (sc := defScope (top 46)) (by decide +kernel)) (fun _ => S.nd) (id_seq2 (e_ix (e_var 2 (fun _ => pv 2)) (e_int))) (g_name 4 (fun _ => pg_name (i := 4) S.nd rfl (by first | exact .inl rfl | exact .inr rfl))) ts_nil (e_fz (l_list B.list (a_cons (e_var 4 (fun _ => pv 4)) a_nil) (fun _ => rfl))))) a_nil)))) a_nil)))) a_nil) (fun _ => rfl)) (a_cons (e_callP (RX := RX) 0 O__law_pick (by decide) G__law_pick F__law_pick.kp (F__law_pick.bindsN fun _ _ _ _ _ _ us hl => match us, hl with | [_, _], _ => rfl) hE ni ht (fun _ => pv 0) (a_cons (e_fz (l_lst (a_cons (e_var 3 (fun _ => pv 3)) (a_cons (e_fz (l_list B.list (a_cons (e_var 3 (fun _ => pv 3)) a_nil) (fun _ => rfl))) a_nil)))) a_nil) (fun _ => rfl)) a_nil))) (g_tup 2 (gs_cons (g_name 5 (fun _ => pg_name (i := 5) S.nd rfl (by first | exact .inl rfl | exact .inr rfl))) (gs_cons (g_name 6 (fun _ => pg_name (i := 6) S.nd rfl (by first | exact .inl rfl | exact .inr rfl))) gs_nil)))) (s_cons (s_if (tc c_gt (e_mulX (e_ix (e_var 2 (fun _ => pv 2)) (e_int)) (e_var 1 (fun _ => pv 1))) (e_int) (nomark _)) (s_one (s_ret (ec c_eq (e_repr Sy (by decide) B.repr (a_cons (e_faultLam (Ψ := (fun env c R RX => env.length = 3 ∧ (dCall (Ψ_cover_by gm) RX (aCons (dVar 0) (aCons (dVar 1) (aCons (dVar 2) aNil)))) ⟨env.map .d, c⟩ fun d s => R d s.c)) [5, 1, 6] O0__law_fault (by decide) G__law_fault F__law_fault.kp (F__law_fault.bindsN fun _ _ _ _ _ _ us hl => match us, hl with | [_], _ => rfl) (cloD_of (Ψ := (fun env c R RX => env.length = 3 ∧ (dCall (Ψ_cover_by gm) RX (aCons (dVar 0) (aCons (dVar 1) (aCons (dVar 2) aNil)))) ⟨env.map .d, c⟩ fun d s => R d s.c)) (closS_body (fsc := (defScope (top 46))) rfl rfl) rfl (fun _ _ _ => rfl) fun A2 outer2 s2 H2 f2 c2 E2 hr2 hG2 M2 RX2 ni2 hE2 => ⟨_, e_call (RX := RX2) O_cover_by (by decide) G_cover_by F_cover_by.kp (F_cover_by.bindsN fun _ _ _ _ _ _ us hl => match us, hl with | [_, _, _], _ => rfl) hE2 ni2 (a_cons (e_var 0 (fun _ => pv 0)) (a_cons (e_var 1 (fun _ => pv 1)) (a_cons (e_var 2 (fun _ => pv 2)) a_nil))) (fun _ => rfl), fun env c R h => h.2⟩) ni (fun _ _ _ _ _ _ z => z.elim) TB hmT hu (fun _ => hcode) (fun _ => rfl) (fun _ => rfl) (fun _ => rfl) S.nd (fun _ y hy => of_decide_eq_true (List.all_eq_true.mp (show (Clo.frees _).all (fun y => decide ((defScope (top 46)).names.lookup y = some .cell)) = true from rfl) y hy)) (fun _ => rfl) (cap_has (fsc := (defScope (top 46))) rfl) rfl rfl (fun _ => rfl)) a_nil) (fun _ => rfl)) (e_repr Sy (by decide) B.repr (a_cons (e_tup (a_cons (e_str) (a_cons (e_str) (a_cons (e_mulX (e_ix (e_var 2 (fun _ => pv 2)) (e_int)) (e_var 1 (fun _ => pv 1))) (a_cons (e_int) a_nil))))) a_nil) (fun _ => rfl)) (nomark _)))) (s_nil)) (s_cons (s_if (tc c_gt (e_mulX (e_len B.len (a_cons (e_ix (e_var 2 (fun _ => pv 2)) (e_int)) a_nil) (fun _ => rfl)) (e_var 1 (fun _ => pv 1))) (e_int) (nomark _)) (s_one (s_ret (ec c_eq (e_repr Sy (by decide) B.repr (a_cons (e_faultLam (Ψ := (fun env c R RX => env.length = 3 ∧ (dCall (Ψ_cover_by gm) RX (aCons (dVar 0) (aCons (dVar 1) (aCons (dVar 2) aNil)))) ⟨env.map .d, c⟩ fun d s => R d s.c)) [5, 1, 6] O0__law_fault (by decide) G__law_fault F__law_fault.kp (F__law_fault.bindsN fun _ _ _ _ _ _ us hl => match us, hl with | [_], _ => rfl) (cloD_of (Ψ := (fun env c R RX => env.length = 3 ∧ (dCall (Ψ_cover_by gm) RX (aCons (dVar 0) (aCons (dVar 1) (aCons (dVar 2) aNil)))) ⟨env.map .d, c⟩ fun d s => R d s.c)) (closS_body (fsc := (defScope (top 46))) rfl rfl) rfl (fun _ _ _ => rfl) fun A2 outer2 s2 H2 f2 c2 E2 hr2 hG2 M2 RX2 ni2 hE2 => ⟨_, e_call (RX := RX2) O_cover_by (by decide) G_cover_by F_cover_by.kp (F_cover_by.bindsN fun _ _ _ _ _ _ us hl => match us, hl with | [_, _, _], _ => rfl) hE2 ni2 (a_cons (e_var 0 (fun _ => pv 0)) (a_cons (e_var 1 (fun _ => pv 1)) (a_cons (e_var 2 (fun _ => pv 2)) a_nil))) (fun _ => rfl), fun env c R h => h.2⟩) ni (fun _ _ _ _ _ _ z => z.elim) TB hmT hu (fun _ => hcode) (fun _ => rfl) (fun _ => rfl) (fun _ => rfl) S.nd (fun _ y hy => of_decide_eq_true (List.all_eq_true.mp (show (Clo.frees _).all (fun y => decide ((defScope (top 46)).names.lookup y = some .cell)) = true from rfl) y hy)) (fun _ => rfl) (cap_has (fsc := (defScope (top 46))) rfl) rfl rfl (fun _ => rfl)) a_nil) (fun _ => rfl)) (e_repr Sy (by decide) B.repr (a_cons (e_tup (a_cons (e_str) (a_cons (e_str) (a_cons (e_mulX (e_len B.len (a_cons (e_ix (e_var 2 (fun _ => pv 2)) (e_int)) a_nil) (fun _ => rfl)) (e_var 1 (fun _ => pv 1))) (a_cons (e_int) a_nil))))) a_nil) (fun _ => rfl)) (nomark _)))) (s_nil)) (s_cons (s_asg (e_call (RX := RX) O_cover_by (by decide) G_cover_by F_cover_by.kp (F_cover_by.bindsN fun _ _ _ _ _ _ us hl => match us, hl with | [_, _, _], _ => rfl) hE ni (a_cons (e_var 5 (fun _ => pv 5)) (a_cons (e_var 1 (fun _ => pv 1)) (a_cons (e_var 6 (fun _ => pv 6)) a_nil))) (fun _ => rfl)) (g_tup 2 (gs_cons (g_name 7 (fun _ => pg_name (i := 7) S.nd rfl (by first | exact .inl rfl | exact .inr rfl))) (gs_cons (g_name 8 (fun _ => pg_name (i := 8) S.nd rfl (by first | exact .inl rfl | exact .inr rfl))) gs_nil)))) (s_cons (s_if (tc c_ne (e_repr Sy (by decide) B.repr (a_cons (e_tup (a_cons (e_var 7 (fun _ => pv 7)) (a_cons (e_var 8 (fun _ => pv 8)) a_nil))) a_nil) (fun _ => rfl)) (e_repr Sy (by decide) B.repr (a_cons (e_call (RX := RX) O__law_own (by decide) G__law_own F__law_own.kp (F__law_own.bindsN fun _ _ _ _ _ _ us hl => match us, hl with | [_, _, _], _ => rfl) hE ni (a_cons (e_var 2 (fun _ => pv 2)) (a_cons (e_var 1 (fun _ => pv 1)) (a_cons (e_var 3 (fun _ => pv 3)) a_nil))) (fun _ => rfl)) a_nil) (fun _ => rfl)) (nomark _)) (s_one (s_ret (e_bl))) (s_nil)) (s_cons (s_if (t_w (w_or (tc isnot_bl (e_call (RX := RX) O_is_web_map (by decide) G_is_web_map F_is_web_map.kp (F_is_web_map.bindsN fun _ _ _ _ _ _ us hl => match us, hl with | [_, _, _], _ => rfl) hE ni (a_cons (e_var 7 (fun _ => pv 7)) (a_cons (e_var 2 (fun _ => pv 2)) (a_cons (e_var 8 (fun _ => pv 8)) a_nil))) (fun _ => rfl)) (e_bl) (nomark _)) (w_or1 (tc isnot_bl (e_call (RX := RX) O_is_cover (by decide) G_is_cover F_is_cover.kp (F_is_cover.bindsN fun _ _ _ _ _ _ us hl => match us, hl with | [_, _, _], _ => rfl) hE ni (a_cons (e_var 7 (fun _ => pv 7)) (a_cons (e_var 2 (fun _ => pv 2)) (a_cons (e_var 8 (fun _ => pv 8)) a_nil))) (fun _ => rfl)) (e_bl) (nomark _))))) (s_one (s_ret (e_bl))) (s_nil)) (s_cons (s_if (tc c_gt (e_call (RX := RX) O__law_lots (by decide) G__law_lots F__law_lots.kp (F__law_lots.bindsN fun _ _ _ _ _ _ us hl => match us, hl with | [_, _], _ => rfl) hE ni (a_cons (e_ix (e_var 2 (fun _ => pv 2)) (e_int)) (a_cons (e_ix (e_var 2 (fun _ => pv 2)) (e_int)) a_nil)) (fun _ => rfl)) (e_int) (nomark _)) (s_one (s_ret (ec c_gt (e_call (RX := RX) O__law_lots (by decide) G__law_lots F__law_lots.kp (F__law_lots.bindsN fun _ _ _ _ _ _ us hl => match us, hl with | [_, _], _ => rfl) hE ni (a_cons (e_ix (e_var 7 (fun _ => pv 7)) (e_int)) (a_cons (e_ix (e_var 7 (fun _ => pv 7)) (e_int)) a_nil)) (fun _ => rfl)) (e_int) (nomark _)))) (s_nil)) (s_one (s_ret (ec c_eq (e_call (RX := RX) O__law_lots (by decide) G__law_lots F__law_lots.kp (F__law_lots.bindsN fun _ _ _ _ _ _ us hl => match us, hl with | [_, _], _ => rfl) hE ni (a_cons (e_ix (e_var 7 (fun _ => pv 7)) (e_int)) (a_cons (e_ix (e_var 7 (fun _ => pv 7)) (e_int)) a_nil)) (fun _ => rfl)) (e_call (RX := RX) O__law_rounds (by decide) G__law_rounds F__law_rounds.kp (F__law_rounds.bindsN fun _ _ _ _ _ _ us hl => match us, hl with | [_, _, _], _ => rfl) hE ni (a_cons (e_var 2 (fun _ => pv 2)) (a_cons (e_var 1 (fun _ => pv 1)) (a_cons (e_var 3 (fun _ => pv 3)) a_nil))) (fun _ => rfl)) (nomark _)))))))))))))), fun ds c R h => h.2⟩
end
end K78
namespace K78
open PySem DL
open L2 (atI)
variable {gm : Gm} {c : Int} {R : D → Int → Prop} {RX : DX → Int → Prop}
theorem whole {d : D} (hd : (tyN d).isSome = true) : Ψ_is_whole gm [d] c R RX ↔ R (.bl (isI d)) c := by
  unfold Ψ_is_whole
  cases d <;> simp at hd <;> simp [isI]
theorem tuple_of {d : D} {n : Int} (hd : (tyN d).isSome = true) : Ψ_is_tuple_of gm [d, .int n] c R RX ↔ R (.bl (isTup n d)) c := by
  unfold Ψ_is_tuple_of
  cases d <;> simp at hd <;> simp [isTup]
theorem in_tuples {d : D} : Ψ_in_tuples gm [d] c R RX ↔ dep 12 d = true ∧ R (tups d) c := by
  unfold Ψ_in_tuples Φt
  constructor
  · rintro ⟨d', e, h⟩
    cases e
    exact h
  · exact fun h => ⟨d, rfl, h⟩
def inR (n : Int) : D → Bool
  | .int i => decide (0 ≤ i) && decide (i < n)
  | _ => false
def isTie (n : Int) : D → Bool
  | .tup [.int i, .int j] => (inR n (.int i) && inR n (.int j)) && decide (i ≠ j)
  | _ => false
def isWeb : D → Bool
  | .tup [.int n, .tup ts] => (decide (1 ≤ n) && decide (n ≤ 8)) && (decide (ts.length ≤ 12) && ts.all (isTie n))
  | _ => false
theorem dep_pl {n : Nat} {d : D} (h : dep n d = true) : (tyN d).isSome = true := by
  cases n with
  | zero => cases d <;> cases h
  | succ n => cases d <;> first | rfl | exact h
theorem dep_tup {n : Nat} {l : List D} (h : dep (n + 1) (.tup l) = true) : depL n l = true ∧ l.length ≤ 1000 := by
  have h : (decide (l.length ≤ 1000) && depL n l) = true := h
  rw [Bool.and_eq_true] at h
  exact ⟨h.2, of_decide_eq_true h.1⟩
theorem depL_mem {n : Nat} : ∀ {l : List D}, depL n l = true → ∀ x ∈ l, dep n x = true
  | [], _, x, hx => by cases hx
  | d :: ds, h, x, hx => by
    have h : (dep n d && depL n ds) = true := h
    rw [Bool.and_eq_true] at h
    rcases List.mem_cons.mp hx with e | e
    · rw [e]; exact h.1
    · exact depL_mem h.2 x e
theorem atI0 {a b : D} : atI [a, b] 0 = some a := rfl
theorem atI1 {a b : D} : atI [a, b] 1 = some b := rfl
/-- all items are ints in a range -/
theorem all_range {v : Nat} {n : Int} {c : Int} {sl : List Slot} {χ : DE} {K : List D → S → Prop} {l : List D} (hv : v < sl.length) (hl : l.length ≤ 1000) (hp : ∀ x ∈ l, (tyN x).isSome = true) (hn : ∀ x (Q : D → S → Prop), Q (.int n) ⟨sl.set v (.d x), c⟩ → χ ⟨sl.set v (.d x), c⟩ Q)
    (h : K (l.map fun x => .bl (inR n x)) ⟨sl, c⟩) : lcL [v] (fun d s R => R (s.set v (.d d))) dYes (dAnd (dCall (Ψ_is_whole gm) (fun _ _ => False) (aCons (dVar v) aNil)) (dChain (fun i j => decide (i ≤ j)) (fun i j => decide (i < j)) (dC (.int 0)) (dVar v) χ)) K sl [] l c := by
  refine lc_map (fun x => .bl (inR n x)) hv (by omega) (fun x hx Q hQ => ?_) h
  have e1 : (sl.set v (.d x))[v]? = some (.d x) := by simp [hv]
  simp [e1, whole (hp x hx)]
  cases x <;> simp [isI, inR] at hQ ⊢ <;> (try exact hQ)
  split
  · rename_i h0
    exact hn _ _ (by simpa [h0] using hQ)
  · rename_i h0
    simpa [h0] using hQ
theorem bls_map (f : D → Bool) : ∀ l : List D, blsD (l.map fun x => .bl (f x)) = some (l.map f)
  | [] => rfl
  | x :: l => by simp [bls_map f l]
/-- the ties of a web, one after the other -/
theorem web_ties {n : Int} {b : D} {k : Nat} {c : Int} {E : DEn} {K : Bool → Prop} (hnx : ∀ x, K true → E.nx ⟨[.d (.tup [.int n, b]), x, .no], c⟩) (hrt : ∀ x, K false → E.rt (.bl false) ⟨[.d (.tup [.int n, b]), x, .no], c⟩) : ∀ (l : List D) (x : Slot), (∀ y ∈ l, dep (k + 2) y = true) → K (l.all (isTie n)) →
    dForL (fun d s R => R (s.set 1 (.d d))) (dSeq (dIfS ((tOrD (tNotD (tBool (dCall (Ψ_is_tuple_of gm) RX (aCons (dVar 1) (aCons (dC (.int 2)) aNil))))) (tNotD (tBool (dCB cAll (aCons (dFz (dLc [2] (dSeq2 (dVar 1)) (fun d s R => R (s.set 2 (.d d))) dYes ((dAnd (dCall (Ψ_is_whole gm) (fun _ _ => False) (aCons (dVar 2) aNil)) (dChain (fun i j => decide (i ≤ j)) (fun i j => decide (i < j)) (dC (.int 0)) (dVar 2) (dOp oIx (dVar 0) (dC (.int 0)))))))) aNil)))))) (dRet (dC (.bl false))) (dNext)) (dIfS (tCm oEq (dOp oIx (dVar 1) (dC (.int 0))) (dOp oIx (dVar 1) (dC (.int 1)))) (dRet (dC (.bl false))) (dNext))) E l ⟨[.d (.tup [.int n, b]), x, .no], c⟩
  | [], x, _, h => hnx x h
  | t :: l, x, hp, h => by
    have IH := web_ties hnx hrt l (.d t) (fun y hy => hp y (List.mem_cons_of_mem _ hy))
    have dt := hp t List.mem_cons_self
    have pt := dep_pl dt
    rw [List.all_cons] at h
    simp only [dForL]
    by_cases h2 : isTup 2 t = true
    · obtain ⟨i, j, rfl⟩ := isTup_2 h2
      have dl := (dep_tup dt).1
      have pi := dep_pl (depL_mem dl i (by simp))
      have pj := dep_pl (depL_mem dl j (by simp))
      simp [tuple_of pt, h2, whole pi, whole pj, atI0, atI1]
      cases i <;> cases j <;> simp [isI, isTie, inR] at pi pj h ⊢ <;> first | exact hrt _ h | skip
      rename_i i j
      by_cases a0 : 0 ≤ i <;> by_cases a1 : 0 ≤ j <;> by_cases a2 : n ≤ i <;> by_cases a3 : n ≤ j <;> by_cases a4 : i = j <;>
        simp only [a0, a1, a2, a3, a4, decide_true, decide_false, Bool.true_and, Bool.false_and, Bool.and_false, Bool.and_true, Bool.not_true, Bool.not_false, if_true, if_false, true_or, or_true, or_self, show (i < n) = ¬ n ≤ i from by simp, show (j < n) = ¬ n ≤ j from by simp, not_true, not_false_eq_true] at h ⊢ <;> first | exact hrt _ h | exact IH h
    · have e : isTie n t = false := by
        unfold isTie
        split
        · simp [isTup] at h2
        · rfl
      rw [e, Bool.false_and] at h
      simp [tuple_of pt, h2]
      exact hrt _ h
theorem is_web {d : D} {n : Nat} (hd : dep (n + 4) d = true) (h : R (.bl (isWeb d)) c) : Ψ_is_web gm [d] c R RX := by
  refine ⟨rfl, ?_⟩
  have p0 := dep_pl hd
  by_cases h2 : isTup 2 d = true
  · obtain ⟨a, b, rfl⟩ := isTup_2 h2
    obtain ⟨hd2, _⟩ := dep_tup hd
    have pa := dep_pl (depL_mem hd2 a (by simp))
    have db := depL_mem hd2 b (by simp)
    have pb := dep_pl db
    simp [tuple_of p0, h2, atI0, atI1, whole pa]
    by_cases ha : isI a = true
    · obtain ⟨n, rfl⟩ := isI_at ha
      by_cases hn : 1 ≤ n
      · by_cases hn8 : 8 < n
        · have e : isWeb (.tup [.int n, b]) = false := by
            unfold isWeb
            split
            · rename_i h; cases h; simp; omega
            · rfl
          rw [e] at h
          simp [ha, hn, hn8, h]
        · rcases tyN_cases pb with rfl | ⟨x, rfl⟩ | ⟨x, rfl⟩ | ⟨x, rfl⟩ | ⟨x, rfl⟩ | ⟨x, rfl⟩ | ⟨x, y, rfl⟩
          all_goals try (simp [isWeb] at h; simp [ha, hn, hn8, h]; done)
          by_cases h12 : 12 < x.length
          · have e : isWeb (.tup [.int n, .tup x]) = false := by simp [isWeb]; omega
            rw [e] at h
            simp [ha, hn, hn8]
            rw [if_pos (by omega)]
            exact h
          · have e : isWeb (.tup [.int n, .tup x]) = x.all (isTie n) := by
              have q1 : decide (1 ≤ n) = true := by simpa using hn
              have q2 : decide (n ≤ 8) = true := by simp; omega
              have q3 : decide (x.length ≤ 12) = true := by simp; omega
              show ((decide (1 ≤ n) && decide (n ≤ 8)) && (decide (x.length ≤ 12) && x.all (isTie n))) = _
              rw [q1, q2, q3]
              rfl
            rw [e] at h
            simp [ha, hn, hn8]
            rw [if_neg (by omega)]
            exact web_ties (K := fun b => R (.bl b) c) (fun _ h => h) (fun _ h => h) x _ (fun y hy => depL_mem (dep_tup db).1 y hy) h
      · have e : isWeb (.tup [.int n, b]) = false := by
          unfold isWeb
          split
          · rename_i h; cases h; simp; omega
          · rfl
        rw [e] at h
        simp [ha, hn, h]
    · have e : isWeb (.tup [a, b]) = false := by
        unfold isWeb
        split
        · rename_i h; cases h; simp [isI] at ha
        · rfl
      rw [e] at h
      simp [ha, h]
  · have e : isWeb d = false := by
      unfold isWeb
      split
      · simp [isTup] at h2
      · rfl
    rw [e] at h
    simp [tuple_of p0, h2, h]
mutual
theorem dep_tups : ∀ {n : Nat} {d : D}, dep n d = true → dep n (tups d) = true
  | n + 1, .tup ds, h => by
    obtain ⟨h1, h2⟩ := dep_tup h
    show (decide ((tupsL ds).length ≤ 1000) && depL n (tupsL ds)) = true
    rw [depL_tups h1, tupsL_len]
    simpa using h2
  | n + 1, .lst ds, h => by
    obtain ⟨h1, h2⟩ := dep_tup (l := ds) h
    show (decide ((tupsL ds).length ≤ 1000) && depL n (tupsL ds)) = true
    rw [depL_tups h1, tupsL_len]
    simpa using h2
  | n + 1, .non, h => h
  | n + 1, .bl _, h => h
  | n + 1, .int _, h => h
  | n + 1, .str _, h => h
  | n + 1, .dct _ _, h => h
  | n + 1, .obj _ _ _, h => h
  | n + 1, .ty _, h => h
  | n + 1, .cls _, h => h
  | n + 1, .clo _, h => h
  | n + 1, .sc _ _, h => h
  | 0, d, h => by cases d <;> cases h
theorem depL_tups : ∀ {n : Nat} {ds : List D}, depL n ds = true → depL n (tupsL ds) = true
  | _, [], _ => rfl
  | n, d :: ds, h => by
    have h : (dep n d && depL n ds) = true := h
    rw [Bool.and_eq_true] at h
    show (dep n (tups d) && depL n (tupsL ds)) = true
    rw [dep_tups h.1, depL_tups h.2]
    rfl
theorem tupsL_len : ∀ ds : List D, (tupsL ds).length = ds.length
  | [] => rfl
  | d :: ds => congrArg Nat.succ (tupsL_len ds)
end
theorem web_from {w : Str} {d : D} (hd : dep 12 d = true) (h1 : isWeb (tups d) = true → R (tups d) c) (h2 : isWeb (tups d) = false → RX ⟨gm.a "BadWeb", ["what", "value"], [.str w, d]⟩ c) : Ψ_web_from gm [.str w, d] c R RX := by
  refine ⟨rfl, ?_⟩
  simp [in_tuples, hd]
  refine is_web (n := 8) (dep_tups hd) ?_
  simp
  cases e : isWeb (tups d) with
  | true => simpa using h1 e
  | false => simpa using h2 e
theorem between {w : Str} {d : D} (hd : (tyN d).isSome = true) (h1 : ∀ m, d = .int m → 1 ≤ m → m ≤ 6 → R .non c) (h2 : (∀ m, d = .int m → ¬ (1 ≤ m ∧ m ≤ 6)) → RX ⟨gm.a "BadNumber", ["what", "number"], [.str w, d]⟩ c) : Ψ_need_between gm [.str w, d, .int 1, .int 6] c R RX := by
  refine ⟨rfl, ?_⟩
  simp [whole hd]
  cases d <;> simp at hd <;> simp [isI]
  all_goals try exact h2 (by simp)
  rename_i m
  by_cases a : m < 1
  · simp [a]
    exact h2 fun m' e => by cases e; omega
  · by_cases b : 6 < m
    · simp [a, b]
      exact h2 fun m' e => by cases e; omega
    · simp [a, b]
      exact h1 m rfl (by omega) (by omega)
def isShifts (m t : Int) : D → Bool
  | .tup l => decide ((l.length : Int) = t) && l.all (inR m)
  | _ => false
theorem shifts_from {m t : Int} {d : D} (hd : dep 12 d = true) (h1 : isShifts m t (tups d) = true → R (tups d) c) (h2 : isShifts m t (tups d) = false → RX ⟨gm.a "BadRow", ["row"], [d]⟩ c) : Ψ_shifts_from gm [.int m, .int t, d] c R RX := by
  refine ⟨rfl, ?_⟩
  have hd' := dep_tups hd
  simp [in_tuples, hd, tuple_of (dep_pl hd')]
  generalize e : tups d = e0 at *
  cases e0 with
  | tup l =>
    obtain ⟨k1, k2⟩ := dep_tup hd'
    by_cases hl : (l.length : Int) = t
    · simp [isTup, hl]
      refine all_range (n := m) (by simp) k2 (fun x hx => dep_pl (depL_mem k1 x hx)) (fun x Q hQ => by simpa using hQ) ?_
      simp [bls_map]
      split
      · rename_i h
        exact h2 (by simp [isShifts, hl]; exact h)
      · rename_i h
        exact h1 (by simp [isShifts, hl]; simpa using h)
    · simp [isTup, hl]
      exact h2 (by simp [isShifts, hl])
  | _ => simp [isTup]; exact h2 rfl
theorem isWeb_at {d : D} (h : isWeb d = true) : ∃ n ts, d = .tup [.int n, .tup ts] ∧ 1 ≤ n ∧ n ≤ 8 ∧ ts.length ≤ 12 ∧ ∀ t ∈ ts, isTie n t = true := by
  unfold isWeb at h
  split at h
  · rename_i n ts
    simp only [Bool.and_eq_true, decide_eq_true_eq, List.all_eq_true] at h
    exact ⟨n, ts, rfl, h.1.1, h.1.2, h.2.1, h.2.2⟩
  · cases h
theorem isTie_at {n : Int} {d : D} (h : isTie n d = true) : ∃ i j : Int, d = .tup [.int i, .int j] ∧ 0 ≤ i ∧ i < n ∧ 0 ≤ j ∧ j < n ∧ i ≠ j := by
  unfold isTie at h
  split at h
  · rename_i i j
    simp only [inR, Bool.and_eq_true, decide_eq_true_eq] at h
    exact ⟨i, j, rfl, h.1.1.1, h.1.1.2, h.1.2.1, h.1.2.2, h.2⟩
  · cases h
theorem isShifts_at {m t : Int} {d : D} (h : isShifts m t d = true) : ∃ l, d = .tup l ∧ (l.length : Int) = t ∧ ∀ x ∈ l, ∃ i : Int, x = .int i ∧ 0 ≤ i ∧ i < m := by
  unfold isShifts at h
  split at h
  · rename_i l
    simp only [Bool.and_eq_true, decide_eq_true_eq, List.all_eq_true] at h
    refine ⟨l, rfl, h.1, fun x hx => ?_⟩
    have := h.2 x hx
    unfold inR at this
    split at this
    · rename_i i
      simp only [Bool.and_eq_true, decide_eq_true_eq] at this
      exact ⟨i, rfl, this⟩
    · cases this
  · cases h
/-! ### cover_by: what is refused -/
section
variable {w mD r : D}
theorem cover_web (hw : dep 12 w = true) (h : isWeb (tups w) = false) (hx : RX ⟨gm.a "BadWeb", ["what", "value"], [.str "web", w]⟩ c) : Ψ_cover_by gm [w, mD, r] c R RX := by
  refine ⟨rfl, ?_⟩
  simp
  exact web_from hw (fun e => by rw [h] at e; cases e) fun _ => hx
theorem cover_num (hw : dep 12 w = true) (h : isWeb (tups w) = true) (hm : (tyN mD).isSome = true) (hn : ∀ m, mD = .int m → ¬ (1 ≤ m ∧ m ≤ 6)) (hx : RX ⟨gm.a "BadNumber", ["what", "number"], [.str "m", mD]⟩ c) : Ψ_cover_by gm [w, mD, r] c R RX := by
  refine ⟨rfl, ?_⟩
  simp
  refine web_from hw (fun e => ?_) fun e => by rw [h] at e; cases e
  exact between hm (fun m e h1 h2 => (hn m e ⟨h1, h2⟩).elim) fun _ => hx
theorem cover_row (hw : dep 12 w = true) {m : Int} (hr : dep 12 r = true) (h1 : 1 ≤ m) (h6 : m ≤ 6) {n : Int} {ts : List D} (h : tups w = .tup [.int n, .tup ts]) (hw2 : isWeb (tups w) = true) (hs : isShifts m ts.length (tups r) = false) (hx : RX ⟨gm.a "BadRow", ["row"], [r]⟩ c) : Ψ_cover_by gm [w, .int m, r] c R RX := by
  refine ⟨rfl, ?_⟩
  simp
  refine web_from hw (fun e => ?_) fun e => by rw [hw2] at e; cases e
  refine between rfl (fun m' e _ _ => ?_) fun e => (e m rfl ⟨h1, h6⟩).elim
  cases e
  simp [h, atI0, atI1]
  exact shifts_from hr (fun e => by rw [hs] at e; cases e) fun _ => hx
theorem cover_places (hw : dep 12 w = true) {m : Int} (hr : dep 12 r = true) (h1 : 1 ≤ m) (h6 : m ≤ 6) {n : Int} {ts : List D} (h : tups w = .tup [.int n, .tup ts]) (hw2 : isWeb (tups w) = true) (hs : isShifts m ts.length (tups r) = true) (h8 : 8 < n * m) (hx : RX ⟨gm.a "TooMany", ["what", "many", "limit"], [.str "places", .int (n * m), .int 8]⟩ c) : Ψ_cover_by gm [w, .int m, r] c R RX := by
  refine ⟨rfl, ?_⟩
  simp
  refine web_from hw (fun e => ?_) fun e => by rw [hw2] at e; cases e
  refine between rfl (fun m' e _ _ => ?_) fun e => (e m rfl ⟨h1, h6⟩).elim
  cases e
  simp [h, atI0, atI1]
  refine shifts_from hr (fun e => ?_) fun e => by rw [hs] at e; cases e
  have cm : L2.CMul n m := .inr ⟨by omega, by omega⟩
  simp [h8, cm]
  exact hx
theorem cover_ties (hw : dep 12 w = true) {m : Int} (hr : dep 12 r = true) (h1 : 1 ≤ m) (h6 : m ≤ 6) {n : Int} {ts : List D} (h : tups w = .tup [.int n, .tup ts]) (hw2 : isWeb (tups w) = true) (hs : isShifts m ts.length (tups r) = true) (h8 : n * m ≤ 8) (h12 : 12 < ts.length * m) (hx : RX ⟨gm.a "TooMany", ["what", "many", "limit"], [.str "ties", .int (ts.length * m), .int 12]⟩ c) : Ψ_cover_by gm [w, .int m, r] c R RX := by
  refine ⟨rfl, ?_⟩
  simp
  refine web_from hw (fun e => ?_) fun e => by rw [hw2] at e; cases e
  refine between rfl (fun m' e _ _ => ?_) fun e => (e m rfl ⟨h1, h6⟩).elim
  cases e
  simp [h, atI0, atI1]
  refine shifts_from hr (fun e => ?_) fun e => by rw [hs] at e; cases e
  have cm : L2.CMul n m := .inr ⟨by omega, by omega⟩
  have cm2 : L2.CMul ts.length m := .inr ⟨by omega, by omega⟩
  have h8' : ¬ 8 < n * m := by omega
  simp [h8', h12, cm, cm2]
  exact hx
end
end K78
namespace K78
open PySem DL
open L2 (atI)
variable {gm : Gm} {c : Int} {R : D → Int → Prop} {RX : DX → Int → Prop}
/-! ### covers -/
abbrev Tie := Nat × Nat
@[simp] def prD (p : Tie) : D := .tup [.int p.1, .int p.2]
abbrev tsD (ts : List Tie) : List D := ts.map prD
abbrev webD (n : Nat) (ts : List Tie) : D := .tup [.int n, .tup (tsD ts)]
abbrev nsD (ss : List Nat) : List D := ss.map fun s : Nat => D.int (s : Int)
/-- the ties over one tie -/
def rowT (m s : Nat) (p : Tie) : List Tie := (List.range m).map fun k => (p.1 * m + k, p.2 * m + (k + s) % m)
def cvT (m : Nat) (s : Nat → Nat) : Nat → List Tie → List Tie
  | _, [] => []
  | t, p :: ps => rowT m (s t) p ++ cvT m s (t + 1) ps
def cvE (m : Nat) : Nat → List Tie → List D
  | _, [] => []
  | t, p :: ps => List.replicate m (.tup [.int t, .bl false]) ++ cvE m (t + 1) ps
theorem cvT_app (m : Nat) (s : Nat → Nat) : ∀ (ps qs : List Tie) (t : Nat), cvT m s t (ps ++ qs) = cvT m s t ps ++ cvT m s (t + ps.length) qs
  | [], qs, t => by simp [cvT]
  | p :: ps, qs, t => by
    have : t + 1 + ps.length = t + (ps.length + 1) := by omega
    simp [cvT, cvT_app m s ps qs (t + 1), this]
theorem cvE_app (m : Nat) : ∀ (ps qs : List Tie) (t : Nat), cvE m t (ps ++ qs) = cvE m t ps ++ cvE m (t + ps.length) qs
  | [], qs, t => by simp [cvE]
  | p :: ps, qs, t => by
    have : t + 1 + ps.length = t + (ps.length + 1) := by omega
    simp [cvE, cvE_app m ps qs (t + 1), this]
theorem cvT_len (m : Nat) (s : Nat → Nat) : ∀ (ps : List Tie) (t : Nat), (cvT m s t ps).length = ps.length * m
  | [], t => by simp [cvT]
  | p :: ps, t => by simp [cvT, rowT, cvT_len m s ps, Nat.succ_mul]; omega
theorem cvE_len (m : Nat) : ∀ (ps : List Tie) (t : Nat), (cvE m t ps).length = ps.length * m
  | [], t => by simp [cvE]
  | p :: ps, t => by simp [cvE, cvE_len m ps, Nat.succ_mul]; omega
def coverD (n : Nat) (ts : List Tie) (m : Nat) (ss : List Nat) : D := .tup [webD (n * m) (cvT m (fun t => ss.getD t 0) 0 ts), .tup [.tup (nsD ((List.range (n * m)).map fun p => p / m)), .tup (cvE m 0 ts)]]
theorem atI_nat {α : Type} {l : List α} (t : Nat) : atI l (t : Int) = l[t]? := by
  unfold atI
  by_cases h : t < l.length
  · simp [L2.ixN, h]
  · simp [L2.ixN, h]
theorem isShifts_ns {m t : Nat} {ss : List Nat} (h1 : ss.length = t) (h2 : ∀ s ∈ ss, s < m) : isShifts m t (.tup (nsD ss)) = true := by
  simp only [isShifts, List.length_map, h1, decide_true, Bool.true_and, List.all_eq_true]
  intro x hx
  simp at hx
  obtain ⟨s, hs, rfl⟩ := hx
  have := h2 s hs
  simp [inR, this]
theorem cover_ok {w r : D} {n m : Nat} {ts : List Tie} {ss : List Nat} (hw : dep 12 w = true) (hr : dep 12 r = true) (h1 : 1 ≤ m) (h6 : m ≤ 6) (h : tups w = webD n ts) (hw2 : isWeb (tups w) = true) (hs : tups r = .tup (nsD ss)) (hsl : ss.length = ts.length) (hsm : ∀ s ∈ ss, s < m) (h8 : n * m ≤ 8) (h12 : ts.length * m ≤ 12)
    (hR : R (coverD n ts m ss) c) : Ψ_cover_by gm [w, .int m, r] c R RX := by
  have hs2 : isShifts m ts.length (tups r) = true := by rw [hs]; exact isShifts_ns hsl hsm
  refine ⟨rfl, ?_⟩
  simp
  refine web_from hw (fun _ => ?_) fun e => by rw [hw2] at e; cases e
  refine between rfl (fun m' e _ _ => ?_) fun e => (e m rfl ⟨by omega, by omega⟩).elim
  cases e
  simp [h, atI0, atI1]
  refine shifts_from hr (fun _ => ?_) fun e => by
    have hs2' := hs2
    simp [hs2'] at e
  have cm : L2.CMul n m := .inr ⟨by omega, by omega⟩
  have cm2 : L2.CMul ts.length m := .inr ⟨by omega, by omega⟩
  have g8 : ¬ ((8 : Int) < n * m) := by have : ((n * m : Nat) : Int) ≤ 8 := by exact_mod_cast h8
                                        push_cast at this; omega
  have g12 : ¬ ((12 : Int) < ts.length * m) := by have : ((ts.length * m : Nat) : Int) ≤ 12 := by exact_mod_cast h12
                                                  push_cast at this; omega
  simp [g8, g12, cm, cm2, hs]
  refine for_ind (fun l s => ∃ done rest x7 x8 x9, ts = done ++ rest ∧ l = enL done.length (tsD rest) ∧ s = ⟨[.d w, .d (.int m), .d r, .d (webD n ts), .d (.tup (nsD ss)), .own (.l (tsD (cvT m (fun t => ss.getD t 0) 0 done))), .own (.l (cvE m 0 done)), x7, x8, x9, .no, .no], c⟩) ?_ ?_ _ _ ⟨[], ts, _, _, _, rfl, rfl, rfl⟩
  · rintro s ⟨done, rest, x7, x8, x9, e1, e2, rfl⟩
    cases rest with
    | cons _ _ => simp at e2
    | nil =>
      simp at e1
      subst e1
      simp [atI0, atI1, cm]
      refine ⟨by omega, lc_map (fun d => match d with
        | .int p => .int (p / m)
        | d => d) (by simp) (by simp; omega) (fun x hx Q hQ => ?_) ?_⟩
      · simp at hx
        obtain ⟨p, hp, rfl⟩ := hx
        have : L2.CDiv (p : Int) m := ⟨by omega, by omega⟩
        simp [this]
        exact hQ
      · simp [atI0, atI1, cm]
        refine cast ?_ hR
        congr 1
        simp [coverD]
        rw [show ((n : Int) * m).toNat = n * m from by rw [← Int.natCast_mul]; rfl]
        apply List.map_congr_left
        intro p _
        simp
  · rintro x xs s K ⟨done, rest, x7, x8, x9, e1, e2, rfl⟩ hK
    cases rest with
    | nil => simp at e2
    | cons p rest =>
      simp at e2
      obtain ⟨rfl, rfl⟩ := e2
      simp
      refine ⟨by omega, for_ind (fun l s => ∃ k x9, l = ((List.range m).drop k).map (fun i : Nat => D.int i) ∧ k ≤ m ∧ s = ⟨[.d w, .d (.int m), .d r, .d (webD n ts), .d (.tup (nsD ss)), .own (.l (tsD (cvT m (fun t => ss.getD t 0) 0 done ++ (rowT m (ss.getD done.length 0) p).take k))), .own (.l (cvE m 0 done ++ List.replicate k (.tup [.int done.length, .bl false]))), .d (.int done.length), .d (prD p), x9, .no, .no], c⟩) ?_ ?_ _ _ ⟨0, x9, by simp, by omega, by simp⟩⟩
      · rintro s ⟨k, x9, e2, hk, rfl⟩
        have hk : k = m := by
          have := congrArg List.length e2
          simp at this
          omega
        subst hk
        refine hK _ ⟨done ++ [p], rest, .d (.int done.length), .d (prD p), x9, by simp [e1], by simp, ?_⟩
        simp [cvT_app, cvE_app, cvT, cvE, rowT]
        rw [List.take_of_length_le (by simp)]
      · rintro x xs s K ⟨k, x9, e2, hk, rfl⟩ hK2
        have hk : k < m := by
          by_cases q : k < m
          · exact q
          · have := congrArg List.length e2
            simp at this
            omega
        rw [List.drop_eq_getElem_cons (by simpa using hk), List.map_cons] at e2
        cases e2
        have hd : done.length < ss.length := by rw [hsl, e1]; simp
        have c1 : ∀ i : Int, L2.CMul i m := fun i => .inr ⟨by omega, by omega⟩
        have e3 : (nsD ss)[done.length]? = some (.int (ss[done.length] : Int)) := by simp [hd]
        have hl : done.length * m + m ≤ 12 := by
          have : (done.length + 1) * m ≤ ts.length * m := Nat.mul_le_mul_right _ (by rw [e1]; simp)
          rw [Nat.succ_mul] at this
          omega
        simp [atI0, atI1, c1, atI_nat, hd, cvT_len, cvE_len, rowT]
        refine ⟨by omega, by omega, by omega, hK2 _ ⟨k + 1, .d (.int k), rfl, by omega, ?_⟩⟩
        simp
        constructor
        · rw [List.take_succ_eq_append_getElem (by simpa [rowT] using hk)]
          simp [rowT, hd]
        · exact List.replicate_succ'.symm
end K78
namespace K78
open PySem DL
open L2 (atI)
variable {gm : Gm} {c : Int} {R : D → Int → Prop} {RX : DX → Int → Prop}
/-! ### the checks of a cover -/
@[simp] def endD (e : Nat) : D := .tup [.int e, .bl false]
abbrev wayD (ps : List Nat) (Z : List (Tie × Nat)) : D := .tup [.tup (nsD ps), .tup (Z.map fun z => endD z.2)]
def cvZ (m : Nat) (s : Nat → Nat) : Nat → List Tie → List (Tie × Nat)
  | _, [] => []
  | t, p :: ps => (rowT m (s t) p).map (fun q => (q, t)) ++ cvZ m s (t + 1) ps
theorem cvZ_fst (m : Nat) (s : Nat → Nat) : ∀ (ps : List Tie) (t : Nat), (cvZ m s t ps).map Prod.fst = cvT m s t ps
  | [], t => rfl
  | p :: ps, t => by simp [cvZ, cvT, cvZ_fst m s ps, Function.comp_def]
theorem cvZ_snd (m : Nat) (s : Nat → Nat) : ∀ (ps : List Tie) (t : Nat), ((cvZ m s t ps).map fun z => endD z.2) = cvE m t ps
  | [], t => rfl
  | p :: ps, t => by
    have : (rowT m (s t) p).length = m := by simp [rowT]
    simp only [cvZ, cvE, List.map_append, cvZ_snd m s ps]
    simp [Function.comp_def, this, List.map_const']
abbrev OkT (n : Nat) (p : Tie) : Prop := p.1 < n ∧ p.2 < n ∧ p.1 ≠ p.2
theorem isWeb_web {n : Nat} {ts : List Tie} (h1 : 1 ≤ n) (h8 : n ≤ 8) (h12 : ts.length ≤ 12) (h : ∀ p ∈ ts, OkT n p) : isWeb (webD n ts) = true := by
  have q1 : decide ((1 : Int) ≤ n) = true := by simp; omega
  have q2 : decide ((n : Int) ≤ 8) = true := by simp; omega
  have q3 : decide ((tsD ts).length ≤ 12) = true := by simpa using h12
  have q4 : (tsD ts).all (isTie n) = true := by
    rw [List.all_eq_true]
    intro x hx
    simp at hx
    obtain ⟨a, b, hp, rfl⟩ := hx
    obtain ⟨g1, g2, g3⟩ := h _ hp
    simp at g1 g2 g3
    simp [isTie, inR, g1, g2]
    omega
  show ((decide ((1 : Int) ≤ n) && decide ((n : Int) ≤ 8)) && (decide ((tsD ts).length ≤ 12) && (tsD ts).all (isTie n))) = _
  rw [q1, q2, q3, q4]
  rfl
theorem depL_ints (n : Nat) : ∀ l : List Nat, depL (n + 1) (nsD l) = true
  | [] => rfl
  | x :: l => depL_ints n l
theorem depL_ties (n : Nat) : ∀ l : List Tie, depL (n + 2) (tsD l) = true
  | [] => rfl
  | x :: l => depL_ties n l
theorem dep_web (k n : Nat) {ts : List Tie} (h : ts.length ≤ 1000) : dep (k + 4) (webD n ts) = true := by
  have h' : decide ((tsD ts).length ≤ 1000) = true := by simpa using h
  have e : dep (k + 3) (.tup (tsD ts)) = (decide ((tsD ts).length ≤ 1000) && depL (k + 2) (tsD ts)) := rfl
  show (true && (true && (dep (k + 3) (.tup (tsD ts)) && true))) = true
  rw [e, depL_ties, h']
  rfl
theorem tupsL_ints : ∀ l : List Nat, tupsL (nsD l) = nsD l
  | [] => rfl
  | x :: l => congrArg (D.int x :: ·) (tupsL_ints l)
theorem tupsL_ties : ∀ l : List Tie, tupsL (tsD l) = tsD l
  | [] => rfl
  | x :: l => congrArg (prD x :: ·) (tupsL_ties l)
theorem tups_web (n : Nat) (ts : List Tie) : tups (webD n ts) = webD n ts := by
  show D.tup [.int n, .tup (tupsL (tsD ts))] = _
  rw [tupsL_ties]
theorem tupsL_ends : ∀ Z : List (Tie × Nat), tupsL (Z.map fun z => endD z.2) = Z.map fun z => endD z.2
  | [] => rfl
  | x :: l => congrArg (endD x.2 :: ·) (tupsL_ends l)
theorem depL_ends (n : Nat) : ∀ l : List (Tie × Nat), depL (n + 2) (l.map fun z => endD z.2) = true
  | [] => rfl
  | x :: l => depL_ends n l
theorem tups_way (ps : List Nat) (Z : List (Tie × Nat)) : tups (wayD ps Z) = wayD ps Z := by
  show D.tup [.tup (tupsL (nsD ps)), .tup (tupsL (Z.map fun z => endD z.2))] = _
  rw [tupsL_ends, tupsL_ints]
theorem dep_way (k : Nat) {ps : List Nat} {Z : List (Tie × Nat)} (h : ps.length ≤ 1000) (h2 : Z.length ≤ 1000) : dep (k + 4) (wayD ps Z) = true := by
  have h' : decide ((nsD ps).length ≤ 1000) = true := by simpa using h
  have h2' : decide ((Z.map fun z => endD z.2).length ≤ 1000) = true := by simpa using h2
  have e : dep (k + 3) (.tup (nsD ps)) = (decide ((nsD ps).length ≤ 1000) && depL (k + 2) (nsD ps)) := rfl
  have e2 : dep (k + 3) (.tup (Z.map fun z => endD z.2)) = (decide ((Z.map fun z => endD z.2).length ≤ 1000) && depL (k + 2) (Z.map fun z => endD z.2)) := rfl
  show (true && (dep (k + 3) (.tup (nsD ps)) && (dep (k + 3) (.tup (Z.map fun z => endD z.2)) && true))) = true
  rw [e, e2, depL_ends, depL_ints, h', h2']
  rfl
theorem web_from_ok {w : Str} {n : Nat} {ts : List Tie} (h1 : 1 ≤ n) (h8 : n ≤ 8) (h12 : ts.length ≤ 12) (h : ∀ p ∈ ts, OkT n p) (hR : R (webD n ts) c) : Ψ_web_from gm [.str w, webD n ts] c R RX := by
  have e := isWeb_web h1 h8 h12 h
  refine web_from (dep_web 8 n (by omega)) (fun _ => ?_) fun q => ?_
  · rw [tups_web]; exact hR
  · rw [tups_web, e] at q; cases q
theorem end_ok {N n i e : Nat} {A B : List Tie} {ps : List Nat} {x y px py : Nat} (hA : A[i]? = some (x, y)) (hx : ps[x]? = some px) (hy : ps[y]? = some py) (hB : B[e]? = some (px, py)) (hR : R (.bl true) c) : Ψ_is_end gm [webD N A, webD n B, .tup (nsD ps), .int i, endD e] c R RX := by
  refine ⟨rfl, ?_⟩
  have he : e < B.length := by
    have := List.getElem?_eq_some_iff.mp hB
    exact this.1
  simp [tuple_of (d := .tup [.int e, .bl false]) (n := 2) rfl, whole (d := .int e) rfl, isTup, isI, atI0, atI1, he, atI_nat, hA, hx, hy]
  rw [if_neg (by omega)]
  have hB' : B[e] = (px, py) := by
    rw [List.getElem?_eq_getElem he] at hB
    exact Option.some.inj hB
  rw [hB']
  refine ⟨rfl, rfl, ?_⟩
  simpa [PyData.eqv, PyData.eqvAll] using hR
/-- the cover's data: ties over ties, each with the index of the tie below it -/
structure Cov (N n : Nat) (ts : List Tie) (ps : List Nat) (Z : List (Tie × Nat)) : Prop where
  len : ps.length = N
  pl : ∀ p ∈ ps, p < n
  at_ : ∀ z ∈ Z, ∃ px py, ps[z.1.1]? = some px ∧ ps[z.1.2]? = some py ∧ ts[z.2]? = some (px, py)
theorem way_ok {N n : Nat} {ts : List Tie} {ps : List Nat} {Z : List (Tie × Nat)} (h : Cov N n ts ps Z) (hN : N ≤ 8) (hZ : Z.length ≤ 12) (hR : R (.bl true) c) : Ψ_is_way gm [webD N (Z.map Prod.fst), webD n ts, wayD ps Z] c R RX := by
  refine ⟨rfl, ?_⟩
  simp [tuple_of (d := wayD ps Z) (n := 2) rfl, tuple_of (d := .tup (nsD ps)) rfl, tuple_of (d := .tup (Z.map fun z => .tup [.int z.2, .bl false])) rfl, isTup, isI, atI0, atI1, h.len]
  refine all_range (n := n) (by simp) (by simp [h.len]; omega) (fun x hx => ?_) (fun x Q hQ => by simpa [atI0] using hQ) ?_
  · simp at hx
    obtain ⟨a, _, rfl⟩ := hx
    rfl
  refine ⟨_, bls_map _ _, ?_⟩
  rw [if_neg (by
    simp [inR]
    exact h.pl)]
  simp [atI1]
  refine lc_ind (fun acc l c' => c' = c ∧ ∃ done rest, Z = done ++ rest ∧ l = enL done.length (rest.map fun z => endD z.2) ∧ acc = List.replicate done.length (.bl true)) ?_ ?_ _ _ _ ⟨rfl, [], Z, rfl, rfl, rfl⟩
  · rintro acc c' ⟨rfl, done, rest, e1, e2, rfl⟩
    refine ⟨List.replicate done.length true, ?_, ?_⟩
    · clear e1 e2
      induction done with
      | nil => rfl
      | cons _ _ ih => simpa [List.replicate_succ] using ih
    · simpa using hR
  · rintro acc x xs c' K ⟨rfl, done, rest, e1, e2, rfl⟩ hK
    cases rest with
    | nil => simp at e2
    | cons z rest =>
      simp at e2
      obtain ⟨rfl, rfl⟩ := e2
      simp
      obtain ⟨px, py, hx, hy, ht⟩ := h.at_ z (by rw [e1]; simp)
      refine end_ok (A := Z.map Prod.fst) (e := z.2) (x := z.1.1) (y := z.1.2) (by rw [e1]; simp) hx hy ht ⟨by rw [e1] at hZ; simp at hZ; omega, hK _ _ ⟨rfl, done ++ [z], rest, by simp [e1], by simp, ?_⟩⟩
      simp [List.replicate_succ']
@[simp] def sdT (side : Nat) (p : Tie) : Nat := if side = 0 then p.1 else p.2
def fnd (t side place : Nat) : Nat → List (Tie × Nat) → List D
  | _, [] => []
  | i, z :: zs => (if z.2 = t ∧ sdT side z.1 = place then [.int i] else []) ++ fnd t side place (i + 1) zs
theorem fnd_len (t side place : Nat) : ∀ (Z : List (Tie × Nat)) (i : Nat), (fnd t side place i Z).length ≤ Z.length
  | [], _ => Nat.le_refl _
  | z :: zs, i => by
    have := fnd_len t side place zs (i + 1)
    unfold fnd
    split <;> simp <;> omega
theorem fnd_app (t side place : Nat) : ∀ (Z Z2 : List (Tie × Nat)) (i : Nat), fnd t side place i (Z ++ Z2) = fnd t side place i Z ++ fnd t side place (i + Z.length) Z2
  | [], _, _ => by simp [fnd]
  | z :: zs, Z2, i => by
    have e : i + 1 + zs.length = i + (zs.length + 1) := by omega
    simp [fnd, fnd_app t side place zs Z2 (i + 1), e]
theorem ends_ok {N t side place : Nat} {ps : List Nat} {Z : List (Tie × Nat)} (hs : side < 2) (hZ : Z.length ≤ 12) (hR : R (.lst (fnd t side place 0 Z)) c) : Ψ_ends_over gm [webD N (Z.map Prod.fst), wayD ps Z, .int place, .int t, .int side] c R RX := by
  refine ⟨rfl, ?_⟩
  simp [atI1]
  refine for_ind (fun l s => ∃ done rest x6 x7 x8 x9, Z = done ++ rest ∧ l = enL done.length (tsD (rest.map Prod.fst)) ∧ s = ⟨[.d (webD N (Z.map Prod.fst)), .d (wayD ps Z), .d (.int place), .d (.int t), .d (.int side), .own (.l (fnd t side place 0 done)), x6, x7, x8, x9], c⟩) ?_ ?_ _ _ ⟨[], Z, _, _, _, _, rfl, by simp, rfl⟩
  · rintro s ⟨done, rest, x6, x7, x8, x9, e1, e2, rfl⟩
    cases rest with
    | cons _ _ => simp at e2
    | nil =>
      simp at e1
      subst e1
      simpa using hR
  · rintro x xs s K ⟨done, rest, x6, x7, x8, x9, e1, e2, rfl⟩ hK
    cases rest with
    | nil => simp at e2
    | cons z rest =>
      simp at e2
      obtain ⟨rfl, rfl⟩ := e2
      have hz : Z[done.length]? = some z := by rw [e1]; simp
      have hl : (fnd t side place 0 done).length < 10000 := by
        have h1 := fnd_len t side place done 0
        have h2 := congrArg List.length e1
        simp at h2
        omega
      have q := hK ⟨[.d (webD N (Z.map Prod.fst)), .d (wayD ps Z), .d (.int place), .d (.int t), .d (.int side), .own (.l (fnd t side place 0 (done ++ [z]))), .d (.int done.length), .d (prD z.1), .d (.int z.2), .d (.bl false)], c⟩ ⟨done ++ [z], rest, _, _, _, _, by simp [e1], by simp, rfl⟩
      rw [fnd_app] at q
      simp only [fnd, Nat.zero_add, List.append_nil] at q
      rcases (show side = 0 ∨ side = 1 by omega) with rfl | rfl
      all_goals
        simp [atI0, atI1, atI_nat, hz]
        by_cases g : z.2 = t
        · have g' : (z.2 : Int) = t := by omega
          rw [if_pos g']
          split
          · rename_i g2
            rw [if_pos ⟨g, by simp; omega⟩] at q
            exact ⟨hl, q⟩
          · rename_i g2
            rw [if_neg (fun u => g2 (by have := u.2; simp at this; omega)), List.append_nil] at q
            exact q
        · have g' : ¬ (z.2 : Int) = t := by omega
          rw [if_neg g']
          rw [if_neg (fun u => g u.1), List.append_nil] at q
          exact q
/-- every tie below has one tie above it at each place -/
structure Lift (N : Nat) (ts : List Tie) (ps : List Nat) (Z : List (Tie × Nat)) : Prop where
  one : ∀ place t side p, place < N → side < 2 → ts[t]? = some p → ps[place]? = some (sdT side p) → (fnd t side place 0 Z).length = 1
theorem coverby_ok {N n : Nat} {ts : List Tie} {ps : List Nat} {Z : List (Tie × Nat)} (h : Cov N n ts ps Z) (hl : Lift N ts ps Z) (hN : N ≤ 8) (ht : ts.length ≤ 12) (hZ : Z.length ≤ 12) (hR : R (.bl true) c) : Ψ_is_cover_by gm [webD N (Z.map Prod.fst), webD n ts, wayD ps Z] c R RX := by
  refine ⟨rfl, ?_⟩
  simp [atI0]
  refine ⟨by omega, for_rg (fun k s => ∃ x3 x4 x5 x6, s = ⟨[.d (webD N (Z.map Prod.fst)), .d (webD n ts), .d (wayD ps Z), x3, x4, x5, x6], c⟩) ⟨_, _, _, _, rfl⟩ ?_ ?_⟩
  · rintro s ⟨x3, x4, x5, x6, rfl⟩
    simpa using hR
  · rintro k s K hk ⟨x3, x4, x5, x6, rfl⟩ hK
    have hpk : ∃ pk, ps[k]? = some pk := ⟨ps[k]'(by rw [h.len]; exact hk), by simp [h.len, hk]⟩
    obtain ⟨pk, hpk⟩ := hpk
    simp [atI1]
    refine for_en (f := prD) (fun t s => ∃ x4 x5 x6, s = ⟨[.d (webD N (Z.map Prod.fst)), .d (webD n ts), .d (wayD ps Z), .d (.int k), x4, x5, x6], c⟩) ⟨_, _, _, rfl⟩ ?_ ?_
    · rintro s ⟨x4, x5, x6, rfl⟩
      exact hK _ ⟨_, _, _, _, rfl⟩
    · rintro t p s K hp ⟨x4, x5, x6, rfl⟩ hK
      simp
      refine for_rg (fun side s => ∃ x6, s = ⟨[.d (webD N (Z.map Prod.fst)), .d (webD n ts), .d (wayD ps Z), .d (.int k), .d (.int t), .d (prD p), x6], c⟩) ⟨_, rfl⟩ ?_ ?_
      · rintro s ⟨x6, rfl⟩
        exact hK _ ⟨_, _, _, rfl⟩
      · rintro side s K hs ⟨x6, rfl⟩ hK
        have h1 := hl.one k t side p hk hs hp
        have hK := hK ⟨[.d (webD N (Z.map Prod.fst)), .d (webD n ts), .d (wayD ps Z), .d (.int k), .d (.int t), .d (prD p), .d (.int side)], c⟩ ⟨_, rfl⟩
        rcases (show side = 0 ∨ side = 1 by omega) with rfl | rfl
        all_goals
          simp [atI0, atI1, atI_nat, hpk]
          split
          · rename_i g
            have h1 := h1 (by simp [hpk]; omega)
            refine ends_ok (by omega) hZ ?_
            exact .inl ⟨by rw [h1]; rfl, hK⟩
          · exact hK
theorem web_map_ok {N n : Nat} {ts : List Tie} {ps : List Nat} {Z : List (Tie × Nat)} (h : Cov N n ts ps Z) (hn1 : 1 ≤ n) (hn : n ≤ 8) (hN1 : 1 ≤ N) (hN : N ≤ 8) (ht : ts.length ≤ 12) (hZ : Z.length ≤ 12) (ok1 : ∀ p ∈ ts, OkT n p) (ok2 : ∀ z ∈ Z, OkT N z.1) (hR : R (.bl true) c) : Ψ_is_web_map gm [webD N (Z.map Prod.fst), webD n ts, wayD ps Z] c R RX := by
  have ok2' : ∀ p ∈ Z.map Prod.fst, OkT N p := by
    intro p hp
    obtain ⟨z, hz, rfl⟩ := List.mem_map.mp hp
    exact ok2 z hz
  refine ⟨rfl, ?_⟩
  simp
  refine web_from_ok hN1 hN (by simpa using hZ) ok2' ?_
  refine web_from_ok hn1 hn ht ok1 ?_
  exact way_ok h hN hZ hR
theorem cover_is_ok {N n : Nat} {ts : List Tie} {ps : List Nat} {Z : List (Tie × Nat)} (h : Cov N n ts ps Z) (hl : Lift N ts ps Z) (hn1 : 1 ≤ n) (hn : n ≤ 8) (hN1 : 1 ≤ N) (hN : N ≤ 8) (ht : ts.length ≤ 12) (hZ : Z.length ≤ 12) (ok1 : ∀ p ∈ ts, OkT n p) (ok2 : ∀ z ∈ Z, OkT N z.1) (hR : R (.bl true) c) : Ψ_is_cover gm [webD N (Z.map Prod.fst), webD n ts, wayD ps Z] c R RX := by
  have ok2' : ∀ p ∈ Z.map Prod.fst, OkT N p := by
    intro p hp
    obtain ⟨z, hz, rfl⟩ := List.mem_map.mp hp
    exact ok2 z hz
  refine ⟨rfl, ?_⟩
  simp
  refine web_from_ok hN1 hN (by simpa using hZ) ok2' ?_
  refine web_from_ok hn1 hn ht ok1 ?_
  refine ⟨rfl, ?_⟩
  simp
  have hps : ps.length ≤ 1000 := by rw [h.len]; omega
  refine in_tuples.mpr ⟨dep_way 8 hps (by omega), ?_⟩
  rw [tups_way]
  refine way_ok h hN hZ ?_
  simp
  exact coverby_ok h hl hN ht hZ hR
end K78
namespace K78
open PySem DL
open L2 (atI)
variable {gm : Gm} {c : Int} {R : D → Int → Prop} {RX : DX → Int → Prop}
/-! ### what a cover is -/
theorem cvZ_mem {m : Nat} {s : Nat → Nat} : ∀ {ts : List Tie} {t : Nat} {z : Tie × Nat}, z ∈ cvZ m s t ts → ∃ (i : Nat) (p : Tie) (k : Nat), ts[i]? = some p ∧ k < m ∧ z = ((p.1 * m + k, p.2 * m + (k + s (t + i)) % m), t + i)
  | [], t, z, h => by cases h
  | p :: ps, t, z, h => by
    simp only [cvZ, List.mem_append] at h
    rcases h with h | h
    · simp only [rowT, List.map_map, List.mem_map, List.mem_range] at h
      obtain ⟨k, hk, rfl⟩ := h
      exact ⟨0, p, k, rfl, hk, rfl⟩
    · obtain ⟨i, q, k, h1, h2, h3⟩ := cvZ_mem h
      refine ⟨i + 1, q, k, by simpa using h1, h2, ?_⟩
      rw [h3, show t + 1 + i = t + (i + 1) by omega]
theorem cvZ_len (m : Nat) (s : Nat → Nat) (ts : List Tie) (t : Nat) : (cvZ m s t ts).length = ts.length * m := by
  have := congrArg List.length (cvZ_fst m s ts t)
  rw [List.length_map, cvT_len] at this
  exact this
abbrev psN (n m : Nat) : List Nat := (List.range (n * m)).map fun p => p / m
theorem psN_at {n m a k : Nat} (ha : a < n) (hk : k < m) : (psN n m)[a * m + k]? = some a := by
  have h1 : a * m + k < n * m := by
    have : (a + 1) * m ≤ n * m := Nat.mul_le_mul_right _ ha
    rw [Nat.succ_mul] at this
    omega
  have h2 : (a * m + k) / m = a := by
    rw [Nat.mul_comm, Nat.mul_add_div (by omega), Nat.div_eq_of_lt hk, Nat.add_zero]
  simp [psN, h1, h2]
theorem cov_of {n m : Nat} {s : Nat → Nat} {ts : List Tie} (hm : 1 ≤ m) (ok : ∀ p ∈ ts, OkT n p) : Cov (n * m) n ts (psN n m) (cvZ m s 0 ts) where
  len := by simp [psN]
  pl := by
    intro p hp
    simp [psN] at hp
    obtain ⟨q, hq, rfl⟩ := hp
    exact Nat.div_lt_of_lt_mul (by rw [Nat.mul_comm]; exact hq)
  at_ := by
    intro z hz
    obtain ⟨i, p, k, h1, h2, rfl⟩ := cvZ_mem hz
    obtain ⟨o1, o2, _⟩ := ok p (List.mem_of_getElem? h1)
    exact ⟨p.1, p.2, psN_at o1 h2, psN_at o2 (Nat.mod_lt _ hm), by simpa using h1⟩
theorem okZ {n m : Nat} {s : Nat → Nat} {ts : List Tie} (hm : 1 ≤ m) (ok : ∀ p ∈ ts, OkT n p) : ∀ z ∈ cvZ m s 0 ts, OkT (n * m) z.1 := by
  intro z hz
  obtain ⟨i, p, k, h1, h2, rfl⟩ := cvZ_mem hz
  obtain ⟨o1, o2, o3⟩ := ok p (List.mem_of_getElem? h1)
  have b : ∀ a k : Nat, a < n → k < m → a * m + k < n * m := fun a k ha hk => by
    have : (a + 1) * m ≤ n * m := Nat.mul_le_mul_right _ ha
    rw [Nat.succ_mul] at this
    omega
  have hk := Nat.mod_lt (k + s (0 + i)) hm
  refine ⟨b _ _ o1 h2, b _ _ o2 hk, fun e => o3 ?_⟩
  have q : ∀ a k : Nat, k < m → (a * m + k) / m = a := fun a k hk => by rw [Nat.mul_comm, Nat.mul_add_div (by omega), Nat.div_eq_of_lt hk, Nat.add_zero]
  have := congrArg (· / m) e
  simp only at this
  rwa [q _ _ h2, q _ _ hk] at this
theorem fnd_count (t side place : Nat) : ∀ (Z : List (Tie × Nat)) (i : Nat), (fnd t side place i Z).length = Z.countP fun z => decide (z.2 = t ∧ sdT side z.1 = place)
  | [], _ => rfl
  | z :: zs, i => by
    have ih := fnd_count t side place zs (i + 1)
    unfold fnd
    rw [List.countP_cons, List.length_append, ih]
    by_cases h : z.2 = t ∧ sdT side z.1 = place
    · rw [if_pos h]; simp only [decide_eq_true h, if_true, List.length_cons, List.length_nil]; omega
    · rw [if_neg h]; simp only [decide_eq_false h, List.length_nil]; simp
theorem row_one : ∀ m < 7, ∀ q < m, ∀ s < m, (List.range m).countP (fun k => decide (k = q)) = 1 ∧ (List.range m).countP (fun k => decide ((k + s) % m = q)) = 1 := by decide
theorem cv_zero {m t side place : Nat} {s : Nat → Nat} {ts : List Tie} {t0 : Nat} (h : t < t0) : ((cvZ m s t0 ts).countP fun z => decide (z.2 = t ∧ sdT side z.1 = place)) = 0 := by
  rw [List.countP_eq_zero]
  intro z hz
  obtain ⟨i, p, k, h1, h2, rfl⟩ := cvZ_mem hz
  simp
  omega
theorem at_mod {m a place : Nat} (h : a = place / m) (x : Nat) : a * m + x = place ↔ x = place % m := by
  have dm : m * (place / m) + place % m = place := Nat.div_add_mod place m
  rw [h, Nat.mul_comm]
  constructor <;> intro <;> omega
theorem sd {x : Nat} {p : Tie} {side : Nat} (h : sdT side p = x) : (if side = 0 then p.1 else p.2) = x := h
theorem cv_one {m t side place : Nat} {s : Nat → Nat} {p : Tie} (hm : m ≤ 6) (hs : side < 2) (h0 : 1 ≤ m) (hsm : s t < m) (hp : sdT side p = place / m) : ∀ (ts : List Tie) (t0 : Nat), t0 ≤ t → ts[t - t0]? = some p → ((cvZ m s t0 ts).countP fun z => decide (z.2 = t ∧ sdT side z.1 = place)) = 1
  | [], t0, _, h => by simp at h
  | a :: ps, t0, hle, h => by
    have dm : m * (place / m) + place % m = place := Nat.div_add_mod place m
    have hq : place % m < m := Nat.mod_lt _ h0
    simp only [cvZ, List.countP_append]
    by_cases e : t0 = t
    · subst e
      rw [cv_zero (by omega), Nat.add_zero]
      simp at h
      subst h
      have r := row_one m (by omega) (place % m) hq (s t0) hsm
      rw [rowT, List.map_map, List.countP_map]
      rcases (show side = 0 ∨ side = 1 by omega) with rfl | rfl
      · refine Eq.trans ?_ r.1
        apply List.countP_congr
        intro k hk
        show decide (t0 = t0 ∧ _) = true ↔ _
        simp only [decide_eq_true_iff, true_and]
        exact at_mod (sd hp) _
      · refine Eq.trans ?_ r.2
        apply List.countP_congr
        intro k hk
        show decide (t0 = t0 ∧ _) = true ↔ _
        simp only [decide_eq_true_iff, true_and]
        exact at_mod (sd hp) _
    · have h2 : ps[t - (t0 + 1)]? = some p := by
        rw [show t - t0 = (t - (t0 + 1)) + 1 by omega] at h
        simpa using h
      rw [cv_one hm hs h0 hsm hp ps (t0 + 1) (by omega) h2]
      have z : ((rowT m (s t0) a).map fun q => (q, t0)).countP (fun z => decide (z.2 = t ∧ sdT side z.1 = place)) = 0 := by
        rw [List.countP_eq_zero]
        intro z hz
        simp only [List.mem_map] at hz
        obtain ⟨q, _, rfl⟩ := hz
        simp
        omega
      rw [z]
theorem lift_of {n m : Nat} {s : Nat → Nat} {ts : List Tie} (h0 : 1 ≤ m) (hm : m ≤ 6) (hsm : ∀ t, t < ts.length → s t < m) : Lift (n * m) ts (psN n m) (cvZ m s 0 ts) where
  one := by
    intro place t side p hpl hs hp hps
    rw [fnd_count]
    have e : place / m = sdT side p := by
      simp [psN, hpl] at hps
      exact hps
    refine cv_one hm hs h0 (hsm t ?_) e.symm ts 0 (Nat.zero_le _) (by simpa using hp)
    exact (List.getElem?_eq_some_iff.mp hp).1
theorem coverD_eq (n : Nat) (ts : List Tie) (m : Nat) (ss : List Nat) : coverD n ts m ss = .tup [webD (n * m) ((cvZ m (fun t => ss.getD t 0) 0 ts).map Prod.fst), wayD (psN n m) (cvZ m (fun t => ss.getD t 0) 0 ts)] := by
  rw [cvZ_fst]
  unfold wayD
  rw [cvZ_snd]
  rfl
end K78
namespace K78
open PySem DL
open L2 (atI)
variable {gm : Gm} {c : Int} {R : D → Int → Prop} {RX : DX → Int → Prop}
/-! ### the law's own cover -/
theorem psN_succ (k : Nat) {m : Nat} (hm : 1 ≤ m) : psN (k + 1) m = psN k m ++ List.replicate m k := by
  unfold psN
  rw [Nat.succ_mul, List.range_add, List.map_append, List.map_map]
  congr 1
  apply List.ext_getElem
  · simp
  · intro i h1 h2
    simp at h1 ⊢
    rw [Nat.mul_comm, Nat.mul_add_div (by omega), Nat.div_eq_of_lt h1, Nat.add_zero]
theorem cvT_take (m : Nat) (s : Nat → Nat) {ts : List Tie} {t : Nat} {p : Tie} (h : ts[t]? = some p) : cvT m s 0 (ts.take (t + 1)) = cvT m s 0 (ts.take t) ++ rowT m (s t) p := by
  obtain ⟨ht, rfl⟩ := List.getElem?_eq_some_iff.mp h
  rw [List.take_succ_eq_append_getElem ht, cvT_app]
  have e : (ts.take t).length = t := by simp; omega
  simp [cvT, e]
theorem cvE_take (m : Nat) {ts : List Tie} {t : Nat} {p : Tie} (h : ts[t]? = some p) : cvE m 0 (ts.take (t + 1)) = cvE m 0 (ts.take t) ++ List.replicate m (.tup [.int t, .bl false]) := by
  obtain ⟨ht, rfl⟩ := List.getElem?_eq_some_iff.mp h
  rw [List.take_succ_eq_append_getElem ht, cvE_app]
  have e : (ts.take t).length = t := by simp; omega
  simp [cvE, e]
theorem own_ok {n m : Nat} {ts : List Tie} {ss : List Nat} (h1 : 1 ≤ m) (h6 : m ≤ 6) (hsl : ss.length = ts.length) (h8 : n * m ≤ 8) (h12 : ts.length * m ≤ 12)
    (hR : R (coverD n ts m ss) c) : Ψ__law_own gm [webD n ts, .int m, .tup (nsD ss)] c R RX := by
  have c1 : ∀ i : Int, L2.CMul i m := fun i => .inr ⟨by omega, by omega⟩
  have hn8 : n ≤ 8 := Nat.le_trans (Nat.le_mul_of_pos_right n h1) h8
  have ht12 : ts.length ≤ 12 := Nat.le_trans (Nat.le_mul_of_pos_right _ h1) h12
  refine ⟨rfl, ?_⟩
  simp [atI0, atI1]
  refine ⟨by omega, for_rg (fun t s => ∃ x5 x6 x7 x8, s = ⟨[.d (webD n ts), .d (.int m), .d (.tup (nsD ss)), .own (.l (tsD (cvT m (fun t => ss.getD t 0) 0 (ts.take t)))), .own (.l (cvE m 0 (ts.take t))), x5, x6, x7, x8, .no, .no], c⟩) ⟨_, _, _, _, rfl⟩ ?_ ?_⟩
  · rintro s ⟨x5, x6, x7, x8, rfl⟩
    rw [List.take_of_length_le (Nat.le_refl _)]
    simp [atI0, atI1]
    refine ⟨by omega, for_rg (fun k s => ∃ x10, s = ⟨[.d (webD n ts), .d (.int m), .d (.tup (nsD ss)), .d (.lst (tsD (cvT m (fun t => ss.getD t 0) 0 ts))), .d (.lst (cvE m 0 ts)), x5, x6, x7, x8, .d (.lst (nsD (psN k m))), x10], c⟩) ⟨.no, by simp [psN]⟩ ?_ ?_⟩
    · rintro s ⟨x10, rfl⟩
      simp [atI0, atI1, c1]
      refine cast ?_ hR
      congr 1
      simp [coverD]
    · rintro k s K hk ⟨x10, rfl⟩ hK
      have hK := hK _ ⟨.d (.int k), rfl⟩
      rw [psN_succ k h1] at hK
      have hl : k * m + m ≤ 8 := by
        have : (k + 1) * m ≤ n * m := Nat.mul_le_mul_right _ hk
        rw [Nat.succ_mul] at this
        omega
      simp [atI0, atI1]
      refine ⟨by omega, by omega, by omega, by omega, ?_⟩
      refine cast (congrArg K ?_) hK
      simp [S.set]
  · rintro t s K ht ⟨x5, x6, x7, x8, rfl⟩ hK
    obtain ⟨p, hp⟩ : ∃ p, ts[t]? = some p := ⟨ts[t], by simp [ht]⟩
    have hs : ∃ st, ss[t]? = some st := ⟨ss[t], by simp [hsl, ht]⟩
    obtain ⟨st, hs⟩ := hs
    have hl : t * m + m ≤ 12 := by
      have : (t + 1) * m ≤ ts.length * m := Nat.mul_le_mul_right _ ht
      rw [Nat.succ_mul] at this
      omega
    have q := hK ⟨[.d (webD n ts), .d (.int m), .d (.tup (nsD ss)), .own (.l (tsD (cvT m (fun t => ss.getD t 0) 0 (ts.take (t + 1))))), .own (.l (cvE m 0 (ts.take (t + 1)))), .d (.int t), .d (.int p.1), .d (.int p.2), .d (.int m), .no, .no], c⟩ ⟨_, _, _, _, rfl⟩
    simp [atI0, atI1, atI_nat, hp]
    refine ⟨by omega, for_rg (fun k s => ∃ x8, s = ⟨[.d (webD n ts), .d (.int m), .d (.tup (nsD ss)), .own (.l (tsD (cvT m (fun t => ss.getD t 0) 0 (ts.take t) ++ (rowT m st p).take k))), .own (.l (cvE m 0 (ts.take t) ++ List.replicate k (.tup [.int t, .bl false]))), .d (.int t), .d (.int p.1), .d (.int p.2), x8, .no, .no], c⟩) ⟨x8, by simp⟩ ?_ ?_⟩
    · rintro s ⟨x8, rfl⟩
      refine hK _ ⟨.d (.int t), .d (.int p.1), .d (.int p.2), x8, ?_⟩
      rw [cvT_take m _ hp, cvE_take m hp, List.take_of_length_le (l := rowT m st p) (by rw [rowT]; simp)]
      simp [hs]
    · rintro k s K hk ⟨x8, rfl⟩ hK
      have hK := hK _ ⟨.d (.int k), rfl⟩
      have hlt : (ts.take t).length = t := by simp; omega
      rw [List.take_succ_eq_append_getElem (by simpa [rowT] using hk), List.replicate_succ'] at hK
      simp [atI0, atI1, atI_nat, hs, c1, cvT_len, cvE_len, rowT]
      have hmin : min t ts.length = t := by omega
      refine ⟨by omega, by rw [hmin]; omega, by rw [hmin]; omega, ?_⟩
      refine cast (congrArg K ?_) hK
      simp [S.set, rowT]
end K78
namespace K78
open PySem DL
open L2 (atI)
variable {gm : Gm} {c : Int} {R : D → Int → Prop} {RX : DX → Int → Prop}
/-! ### lots: the components of a web -/
inductive Conn (ts : List Tie) : Nat → Nat → Prop
  | refl (a : Nat) : Conn ts a a
  | tie {a b : Nat} : (a, b) ∈ ts → Conn ts a b
  | symm {a b : Nat} : Conn ts a b → Conn ts b a
  | trans {a b c : Nat} : Conn ts a b → Conn ts b c → Conn ts a c
theorem Conn.mono {ts us : List Tie} (h : ∀ p ∈ ts, p ∈ us) {a b : Nat} (q : Conn ts a b) : Conn us a b := by
  induction q with
  | refl a => exact .refl a
  | tie h2 => exact .tie (h _ h2)
  | symm _ ih => exact .symm ih
  | trans _ _ i1 i2 => exact .trans i1 i2
/-- marks that tell the components -/
structure Mk (N : Nat) (ts : List Tie) (l : List Nat) : Prop where
  len : l.length = N
  to : ∀ a b, Conn ts a b → l[a]? = l[b]?
  of : ∀ a b, a < N → b < N → l[a]? = l[b]? → Conn ts a b
def mrg (lo hi : Nat) (l : List Nat) : List Nat := l.map fun v => if v = hi then lo else v
theorem mk_nil (N : Nat) : Mk N [] (List.range N) where
  len := by simp
  to := by
    intro a b h
    induction h with
    | refl => rfl
    | tie h => cases h
    | symm _ ih => exact ih.symm
    | trans _ _ h1 h2 => exact h1.trans h2
  of := by
    intro a b ha hb h
    simp [ha, hb] at h
    exact h ▸ .refl a
theorem mk_mrg {N : Nat} {ts : List Tie} {l : List Nat} {x y u v : Nat} (h : Mk N ts l) (hx : x < N) (hy : y < N) (hu : l[x]? = some u) (hv : l[y]? = some v) : Mk N (ts ++ [(x, y)]) (mrg (min u v) (max u v) l) where
  len := by simp [mrg, h.len]
  to := by
    intro a b q
    induction q with
    | refl => rfl
    | symm _ ih => exact ih.symm
    | trans _ _ h1 h2 => exact h1.trans h2
    | @tie a b q =>
      simp only [mrg, List.getElem?_map]
      rcases List.mem_append.mp q with q | q
      · rw [h.to a b (.tie q)]
      · simp at q
        obtain ⟨rfl, rfl⟩ := q
        rw [hu, hv]
        simp
        split <;> split <;> omega
  of := by
    intro a b ha hb e
    have c1 : ∀ {a b : Nat}, Conn ts a b → Conn (ts ++ [(x, y)]) a b := fun q => q.mono fun p hp => List.mem_append.mpr (.inl hp)
    have t : Conn (ts ++ [(x, y)]) x y := .tie (by simp)
    obtain ⟨p, hp⟩ : ∃ p, l[a]? = some p := ⟨l[a]'(by rw [h.len]; exact ha), by simp [h.len, ha]⟩
    obtain ⟨q, hq⟩ : ∃ q, l[b]? = some q := ⟨l[b]'(by rw [h.len]; exact hb), by simp [h.len, hb]⟩
    simp only [mrg, List.getElem?_map, hp, hq, Option.map_some, Option.some.injEq] at e
    by_cases epq : p = q
    · exact c1 (h.of a b ha hb (by rw [hp, hq, epq]))
    · have k : (p = u ∨ p = v) ∧ (q = u ∨ q = v) := by
        split at e <;> split at e <;> omega
      have f : ∀ {a p}, a < N → l[a]? = some p → p = u ∨ p = v → Conn (ts ++ [(x, y)]) a x := by
        intro a p ha hp k
        rcases k with k | k
        · exact c1 (h.of a x ha hx (by rw [hp, hu, k]))
        · exact (c1 (h.of a y ha hy (by rw [hp, hv, k]))).trans t.symm
      exact (f ha hp k.1).trans (f hb hq k.2).symm
def LotsIs (N : Nat) (ts : List Tie) (r : Int) : Prop := ∃ (l : List Nat) (out : List Int), Mk N ts l ∧ out.Pairwise (· < ·) ∧ (∀ k : Int, k ∈ out ↔ ∃ v ∈ l, k = (v : Int)) ∧ r = out.length
theorem intsD_ns : ∀ l : List Nat, intsD (nsD l) = some (l.map fun v : Nat => (v : Int))
  | [] => rfl
  | x :: l => by simp [intsD, intsD_ns l]
theorem take_tie {ts : List Tie} {t : Nat} {p : Tie} (h : ts[t]? = some p) : ts.take (t + 1) = ts.take t ++ [p] := by
  obtain ⟨ht, rfl⟩ := List.getElem?_eq_some_iff.mp h
  exact List.take_succ_eq_append_getElem ht
theorem lots_ok {N : Nat} {ts : List Tie} (hN : N ≤ 8) (ht : ts.length ≤ 12) (ok : ∀ p ∈ ts, OkT N p) (hR : ∀ r, LotsIs N ts r → R (.int r) c) : Ψ__law_lots gm [.int N, .tup (tsD ts)] c R RX := by
  refine ⟨rfl, ?_⟩
  simp
  refine ⟨by omega, for_ls (f := prD) (fun t s => ∃ l x3 x4 x5 x6, Mk N (ts.take t) l ∧ s = ⟨[.d (.int N), .d (.tup (tsD ts)), .d (.lst (nsD l)), x3, x4, x5, x6, .no], c⟩) ⟨List.range N, _, _, _, _, mk_nil N, rfl⟩ ?_ ?_⟩
  · rintro s ⟨l, x3, x4, x5, x6, hl, rfl⟩
    rw [List.take_of_length_le (Nat.le_refl _)] at hl
    simp
    refine ⟨_, intsD_ns l, by simp [hl.len]; omega, fun out h1 h2 => hR _ ⟨l, out, hl, h1, fun k => ?_, rfl⟩⟩
    rw [h2]
    simp
    constructor
    · rintro ⟨a, b, rfl⟩; exact ⟨a, b, rfl⟩
    · rintro ⟨a, b, rfl⟩; exact ⟨a, b, rfl⟩
  · rintro t p s K hp ⟨l, x3, x4, x5, x6, hl, rfl⟩ hK
    obtain ⟨o1, o2, o3⟩ := ok p (List.mem_of_getElem? hp)
    obtain ⟨u, hu⟩ : ∃ u, l[p.1]? = some u := ⟨l[p.1]'(by rw [hl.len]; exact o1), by simp [hl.len, o1]⟩
    obtain ⟨v, hv⟩ : ∃ v, l[p.2]? = some v := ⟨l[p.2]'(by rw [hl.len]; exact o2), by simp [hl.len, o2]⟩
    have hm := mk_mrg hl o1 o2 hu hv
    rw [show ts.take t ++ [(p.1, p.2)] = ts.take (t + 1) from (take_tie hp).symm] at hm
    simp [atI_nat, hu, hv]
    have e1 : (if v < u then (v : Int) else u) = ((min u v : Nat) : Int) := by split <;> omega
    have e2 : (if u < v then (v : Int) else u) = ((max u v : Nat) : Int) := by split <;> omega
    rw [e1, e2]
    refine lc_map (fun d => match d with
      | .int a => .int (if a = (max u v : Nat) then ((min u v : Nat) : Int) else a)
      | d => d) (by simp) (by simp [hl.len]; omega) (fun d hd Q hQ => ?_) ?_
    · simp at hd
      obtain ⟨a, ha, rfl⟩ := hd
      simp at hQ ⊢
      split
      · rename_i g
        simpa [g] using hQ
      · rename_i g
        simpa [g] using hQ
    · refine cast (congrArg K ?_) (hK _ ⟨_, .d (.int p.1), .d (.int p.2), .d (.int (min u v : Nat)), .d (.int (max u v : Nat)), hm, rfl⟩)
      simp [S.set, mrg]
      intro a ha
      by_cases q : a = max u v
      · rw [if_pos q, if_pos (by omega)]
      · rw [if_neg q, if_neg (by omega)]
end K78
namespace K78
open PySem DL
open L2 (atI)
variable {gm : Gm} {c : Int} {R : D → Int → Prop} {RX : DX → Int → Prop}
/-! ### gcd -/
theorem gcd_step {a b k B : Nat} (hb : b ≠ 0) (hle : b ≤ a) (h : a * b * 2 ^ (k - 1) < 2 ^ (2 * B)) (hk : 1 ≤ k) : a % b ≤ b ∧ b * (a % b) * 2 ^ (k + 1 - 1) < 2 ^ (2 * B) := by
  have h1 : a % b < b := Nat.mod_lt _ (by omega)
  have h2 : b * (a / b) + a % b = a := Nat.div_add_mod a b
  have h3 : 1 ≤ a / b := (Nat.one_le_div_iff (by omega)).mpr hle
  have h4 : b * 1 ≤ b * (a / b) := Nat.mul_le_mul_left _ h3
  have h5 : 2 * (a % b) ≤ a := by omega
  refine ⟨by omega, Nat.lt_of_le_of_lt ?_ h⟩
  obtain ⟨j, rfl⟩ : ∃ j, k = j + 1 := ⟨k - 1, by omega⟩
  have e1 : j + 1 + 1 - 1 = j + 1 := by omega
  have e2 : j + 1 - 1 = j := by omega
  rw [e1, e2, Nat.pow_succ]
  calc b * (a % b) * (2 ^ j * 2) = b * (2 * (a % b)) * 2 ^ j := by
        rw [Nat.mul_comm (2 ^ j) 2, ← Nat.mul_assoc, Nat.mul_assoc b, Nat.mul_comm (a % b) 2]
    _ ≤ b * a * 2 ^ j := Nat.mul_le_mul_right _ (Nat.mul_le_mul_left _ h5)
    _ = a * b * 2 ^ j := by rw [Nat.mul_comm b a]
theorem gcd_end {a b B : Nat} (hle : b ≤ a) (h : a * b * 2 ^ (4 + 2 * B - 1) < 2 ^ (2 * B)) : b = 0 := by
  have e : 4 + 2 * B - 1 = 3 + 2 * B := by omega
  rw [e, Nat.pow_add] at h
  have p : 0 < 2 ^ (2 * B) := Nat.pow_pos (by omega)
  by_cases hb : b = 0
  · exact hb
  · have h1 : 1 ≤ a * b := Nat.mul_pos (by omega) (by omega)
    have h2 : 1 * (2 ^ 3 * 2 ^ (2 * B)) ≤ a * b * (2 ^ 3 * 2 ^ (2 * B)) := Nat.mul_le_mul_right _ h1
    omega
theorem gcd_ok {x y : Int} (hy : Builtin.Int.intBits y ≤ 4000) (hR : R (.int (Nat.gcd x.natAbs y.natAbs : Nat)) c) : Ψ__law_gcd gm [.int x, .int y] c R RX := by
  refine ⟨rfl, ?_⟩
  have ax : (if x < 0 then -x else x) = (x.natAbs : Int) := by split <;> omega
  have ay : (if y < 0 then -y else y) = (y.natAbs : Int) := by split <;> omega
  simp [ax, ay]
  generalize ea : x.natAbs = a0 at *
  generalize eb : y.natAbs = b0 at *
  have hB : Builtin.Int.intBits (b0 : Int) ≤ 4000 := by
    refine intBits_le_iff.mpr ?_
    have := intBits_le_iff.mp hy
    rw [eb] at this
    exact this
  have hb0 : b0 < 2 ^ Builtin.Int.intBits (b0 : Int) := (intBits_le_iff (x := (b0 : Int))).mp (Nat.le_refl _)
  generalize Builtin.Int.intBits (b0 : Int) = B at *
  refine ⟨.inl ⟨by omega, by omega⟩, ⟨by omega, by omega⟩, ?_⟩
  rw [show ((4 : Int) + 2 * (B : Int)).toNat = 4 + 2 * B by omega]
  refine for_rg (fun k s => ∃ (a b : Nat) (x2 : Slot), Nat.gcd a b = Nat.gcd a0 b0 ∧ (k = 0 → b = b0) ∧ (1 ≤ k → b ≤ a ∧ a * b * 2 ^ (k - 1) < 2 ^ (2 * B)) ∧ s = ⟨[.d (.int a), .d (.int b), x2], c⟩) ⟨a0, b0, .no, rfl, fun _ => rfl, fun h => absurd h (by omega), rfl⟩ ?_ ?_
  · rintro s ⟨a, b, x2, hg, _, h1, rfl⟩
    obtain ⟨h1, h2⟩ := h1 (by omega)
    have := gcd_end h1 h2
    subst this
    rw [Nat.gcd_zero_right] at hg
    rw [← hg] at hR
    exact hR
  · rintro k s K hk ⟨a, b, x2, hg, h0, h1, rfl⟩ hK
    by_cases hb : b = 0
    · subst hb
      rw [Nat.gcd_zero_right] at hg
      rw [← hg] at hR
      simp
      exact hR
    · have hb' : ¬ ((b : Int) = 0) := by omega
      simp [hb', hb]
      have g2 : Nat.gcd b (a % b) = Nat.gcd a0 b0 := by
        rw [← hg, Nat.gcd_comm a b, Nat.gcd_rec b a, Nat.gcd_comm]
      refine ⟨by omega, ?_⟩
      refine hK _ ⟨b, a % b, .d (.int k), g2, fun h => absurd h (by omega), fun _ => ?_, ?_⟩
      · by_cases k0 : k = 0
        · subst k0
          have hbb := h0 rfl
          subst hbb
          have h1 : a % b < b := Nat.mod_lt _ (by omega)
          refine ⟨by omega, ?_⟩
          have e : 2 * B = B + B := by omega
          rw [e, Nat.pow_add]
          show b * (a % b) * 1 < _
          rw [Nat.mul_one]
          exact Nat.mul_lt_mul'' hb0 (by omega)
        · obtain ⟨h1, h2⟩ := h1 (by omega)
          exact gcd_step hb h1 h2 (by omega)
      · rfl
end K78
namespace K78
open PySem DL
open L2 (atI)
/-! ### heights -/
abbrev Hts := List (Nat × Int)
abbrev hsD (hs : Hts) : List (L2.Key × D) := hs.map fun q => ((Sum.inl (q.1 : Int) : L2.Key), D.int q.2)
def hv (hs : Hts) (v : Nat) : Option Int := (hs.find? fun q => decide (q.1 = v)).map (·.2)
theorem valD_hs (v : Nat) : ∀ hs : Hts, valD (hsD hs) (.inl (v : Int)) = (hv hs v).map .int
  | [] => rfl
  | q :: hs => by
    have ih := valD_hs v hs
    unfold valD hv at ih ⊢
    by_cases h : q.1 = v
    · simp [h]
    · have h' : ¬ (q.1 : Int) = v := by omega
      simp [h, h'] at ih ⊢
      exact ih
theorem putD_hs {v : Nat} {x : Int} {hs : Hts} (h : hv hs v = none) : putD (hsD hs) (.inl (v : Int)) (.int x) = hsD (hs ++ [(v, x)]) := by
  unfold putD
  rw [if_neg]
  · simp
  · unfold hv at h
    simp at h ⊢
    intro a b hm e
    exact h a b hm (by omega)
theorem hv_app {hs : Hts} {v w : Nat} {x : Int} (h : hv hs v = none) : hv (hs ++ [(v, x)]) w = if w = v then some x else hv hs w := by
  unfold hv at h ⊢
  rw [List.find?_append]
  by_cases e : w = v
  · subst e
    rw [if_pos rfl]
    cases q : hs.find? fun q => decide (q.1 = w) with
    | some y => rw [q] at h; cases h
    | none => simp
  · rw [if_neg e]
    have e' : ¬ v = w := fun z => e z.symm
    simp [e']
theorem hv_mem {hs : Hts} {v : Nat} {x : Int} (h : hv hs v = some x) : (v, x) ∈ hs := by
  unfold hv at h
  simp at h
  obtain ⟨a, h⟩ := h
  have h1 := List.mem_of_find?_eq_some h
  have h2 := List.find?_some h
  simp at h2
  rw [← h2]
  exact h1
theorem hv_none {hs : Hts} {v : Nat} : hv hs v = none ↔ ∀ q ∈ hs, q.1 ≠ v := by
  unfold hv
  simp
/-- the place over v at turn k -/
def plc (m v : Nat) (k : Int) : Nat := v * m + (k % (m : Int)).toNat
abbrev sh (ss : List Nat) (t : Nat) : Nat := ss.getD t 0
abbrev cvs (m : Nat) (ss : List Nat) (ts : List Tie) : List Tie := cvT m (fun t => ss.getD t 0) 0 ts
theorem cvT_mem {m : Nat} {s : Nat → Nat} : ∀ {ts : List Tie} {t0 t k : Nat} {p : Tie}, ts[t]? = some p → k < m → (p.1 * m + k, p.2 * m + (k + s (t0 + t)) % m) ∈ cvT m s t0 ts
  | [], _, _, _, _, h, _ => by simp at h
  | a :: ts, t0, 0, k, p, h, hk => by
    simp at h
    subst h
    simp only [cvT, List.mem_append]
    exact .inl (by simp only [rowT, List.mem_map, List.mem_range]; exact ⟨k, hk, rfl⟩)
  | a :: ts, t0, t + 1, k, p, h, hk => by
    simp at h
    simp only [cvT, List.mem_append]
    refine .inr ?_
    have := cvT_mem (s := s) (t0 := t0 + 1) h hk
    rwa [show t0 + 1 + t = t0 + (t + 1) by omega] at this
theorem plc_tie {m : Nat} {ss : List Nat} {ts : List Tie} {t : Nat} {p : Tie} (hm : 1 ≤ m) (h : ts[t]? = some p) (k : Int) : Conn (cvs m ss ts) (plc m p.1 k) (plc m p.2 (k + sh ss t)) := by
  have hm' : (0 : Int) < m := by omega
  have k0 := Int.emod_nonneg k (b := (m : Int)) (by omega)
  have k1 := Int.emod_lt_of_pos k hm'
  have hk : (k % (m : Int)).toNat < m := by omega
  have := cvT_mem (s := fun t => ss.getD t 0) (t0 := 0) h hk
  rw [Nat.zero_add] at this
  refine .tie ?_
  unfold plc
  have e : ((k + (sh ss t : Nat)) % (m : Int)).toNat = ((k % (m : Int)).toNat + ss.getD t 0) % m := by
    have e1 : (((k % (m : Int)).toNat + ss.getD t 0 : Nat) : Int) = k % m + (sh ss t : Nat) := by
      push_cast
      rw [Int.toNat_of_nonneg k0]
    have e2 : ((((k % (m : Int)).toNat + ss.getD t 0) % m : Nat) : Int) = (k % m + (sh ss t : Nat)) % m := by
      rw [Int.natCast_emod, e1]
    rw [Int.emod_add_emod] at e2
    rw [← e2]
    rfl
  rw [e]
  exact this
/-- what the heights are, at every turn -/
structure Good (n m : Nat) (ss : List Nat) (ts : List Tie) (hs : Hts) : Prop where
  z : hv hs 0 = some 0
  nd : (hs.map Prod.fst).Nodup
  lt : ∀ q ∈ hs, q.1 < n
  bd : ∀ v x, hv hs v = some x → x.natAbs ≤ 6 * hs.length
  cn : ∀ v x, hv hs v = some x → ∀ k : Int, Conn (cvs m ss ts) (plc m 0 k) (plc m v (k + x))
theorem good_0 {n m : Nat} {ss : List Nat} {ts : List Tie} (hn : 1 ≤ n) : Good n m ss ts [(0, 0)] where
  z := rfl
  nd := by simp
  lt := by simp; omega
  bd := by
    intro v x h
    have := hv_mem h
    simp at this
    obtain ⟨_, rfl⟩ := this
    simp
  cn := by
    intro v x h k
    have := hv_mem h
    simp at this
    obtain ⟨rfl, rfl⟩ := this
    rw [Int.add_zero]
    exact .refl _
theorem good_add {n m : Nat} {ss : List Nat} {ts : List Tie} {hs : Hts} {v : Nat} {x : Int} (h : Good n m ss ts hs) (hv0 : hv hs v = none) (hv1 : v < n) (hb : x.natAbs ≤ 6 * (hs.length + 1)) (hc : ∀ k : Int, Conn (cvs m ss ts) (plc m 0 k) (plc m v (k + x))) : Good n m ss ts (hs ++ [(v, x)]) where
  z := by
    rw [hv_app hv0]
    split
    · rename_i e
      subst e
      rw [h.z] at hv0
      cases hv0
    · exact h.z
  nd := by
    rw [List.map_append, List.nodup_append]
    refine ⟨h.nd, by simp, ?_⟩
    intro a ha b hb e
    simp at hb
    subst hb
    subst e
    obtain ⟨q, hq, rfl⟩ := List.mem_map.mp ha
    exact hv_none.mp hv0 q hq rfl
  lt := by
    intro q hq
    rcases List.mem_append.mp hq with hq | hq
    · exact h.lt q hq
    · simp at hq
      subst hq
      exact hv1
  bd := by
    intro w y e
    rw [hv_app hv0] at e
    rw [List.length_append]
    split at e
    · cases e; exact hb
    · have := h.bd w y e
      simp
      omega
  cn := by
    intro w y e k
    rw [hv_app hv0] at e
    split at e
    · rename_i g
      cases e; subst g; exact hc k
    · exact h.cn w y e k
/-- a tie is closed: both its ends have heights or none has -/
def Cl (hs : Hts) (p : Tie) : Prop := (hv hs p.1).isSome = (hv hs p.2).isSome
theorem nodup_lt : ∀ (n : Nat) (l : List Nat), l.Nodup → (∀ x ∈ l, x < n) → l.length ≤ n
  | 0, l, _, h => by
    cases l with
    | nil => simp
    | cons a l => exact absurd (h a (by simp)) (by omega)
  | n + 1, l, hd, h => by
    have h1 : (l.filter (fun x => decide (x < n))).length ≤ n := nodup_lt n _ (hd.filter _) (by simp)
    have h2 : (l.filter (fun x => !decide (x < n))).length ≤ 1 := by
      have q : ∀ x ∈ l.filter (fun x => !decide (x < n)), x = n := by
        intro x hx
        simp at hx
        have := h x hx.1
        omega
      have q2 : (l.filter (fun x => !decide (x < n))).Nodup := hd.filter _
      match e : l.filter (fun x => !decide (x < n)), q, q2 with
      | [], _, _ => simp
      | [_], _, _ => simp
      | a :: b :: r, q, q2 =>
        have := q a (by simp)
        have := q b (by simp)
        simp at q2
        omega
    have h3 : ∀ l : List Nat, l.length = (l.filter (fun x => decide (x < n))).length + (l.filter (fun x => !decide (x < n))).length := by
      intro l
      induction l with
      | nil => rfl
      | cons a l ih =>
        by_cases q : a < n
        · simp [List.filter_cons, q] at ih ⊢; omega
        · simp [List.filter_cons, q] at ih ⊢; omega
    have h3 := h3 l
    omega
theorem closed_all {n m : Nat} {ss : List Nat} {ts : List Tie} {hs : Hts} (h : Good n m ss ts hs) (hc : ∀ p ∈ ts, Cl hs p) {v : Nat} (q : Conn ts 0 v) : (hv hs v).isSome = true := by
  have key : ∀ a b, Conn ts a b → (hv hs a).isSome = (hv hs b).isSome := by
    intro a b q
    induction q with
    | refl => rfl
    | tie h => exact hc _ h
    | symm _ ih => exact ih.symm
    | trans _ _ h1 h2 => exact h1.trans h2
  rw [← key 0 v q, h.z]
  rfl
end K78
namespace K78
open PySem DL
open L2 (atI)
variable {gm : Gm} {c : Int} {R : D → Int → Prop} {RX : DX → Int → Prop}
def RoundsIs (n m : Nat) (ss : List Nat) (ts : List Tie) (g : Nat) : Prop := ∃ h : Nat → Int, h 0 = 0 ∧ (∀ v, v < n → ∀ k : Int, Conn (cvs m ss ts) (plc m 0 k) (plc m v (k + h v))) ∧
  ((g : Int) ∣ m) ∧ (∀ t p, ts[t]? = some p → (g : Int) ∣ h p.1 + sh ss t - h p.2) ∧ ∀ S : Int → Prop, (∀ a b, S a → S b → S (a - b)) → S m → (∀ t p, ts[t]? = some p → S (h p.1 + sh ss t - h p.2)) → S g
/-- one turn of a lap -/
structure Turn (n m : Nat) (ss : List Nat) (ts : List Tie) (hs0 : Hts) (t : Nat) (hs : Hts) : Prop where
  good : Good n m ss ts hs
  up : ∀ v, (hv hs0 v).isSome = true → (hv hs v).isSome = true
  gr : hs0.length < hs.length ∨ (hs = hs0 ∧ ∀ i p, i < t → ts[i]? = some p → Cl hs p)
theorem Turn.id {n m : Nat} {ss : List Nat} {ts : List Tie} {hs0 hs : Hts} {t : Nat} {p : Tie} (h : Turn n m ss ts hs0 t hs) (hp : ts[t]? = some p) (hc : Cl hs p) : Turn n m ss ts hs0 (t + 1) hs where
  good := h.good
  up := h.up
  gr := by
    rcases h.gr with g | ⟨rfl, g⟩
    · exact .inl g
    · refine .inr ⟨rfl, fun i q hi hq => ?_⟩
      by_cases e : i = t
      · subst e
        rw [hp] at hq
        cases hq
        exact hc
      · exact g i q (by omega) hq
theorem Turn.add {n m : Nat} {ss : List Nat} {ts : List Tie} {hs0 hs : Hts} {t v : Nat} {x : Int} (h : Turn n m ss ts hs0 t hs) (hv0 : hv hs v = none) (hg : Good n m ss ts (hs ++ [(v, x)])) : Turn n m ss ts hs0 (t + 1) (hs ++ [(v, x)]) where
  good := hg
  up := by
    intro w hw
    have := h.up w hw
    rw [hv_app hv0]
    split
    · rfl
    · exact this
  gr := by
    have : (hs ++ [(v, x)]).length = hs.length + 1 := by simp
    rcases h.gr with g | ⟨rfl, g⟩
    · exact .inl (by omega)
    · exact .inl (by omega)
theorem sub_mod {S : Int → Prop} (h : ∀ a b, S a → S b → S (a - b)) : ∀ (k : Nat) (a b : Int), S a → S b → S (a - k * b)
  | 0, a, b, ha, _ => by simpa using ha
  | k + 1, a, b, ha, hb => by
    have := h _ _ (sub_mod h k a b ha hb) hb
    rwa [show a - ((k + 1 : Nat) : Int) * b = a - k * b - b by push_cast; rw [Int.add_mul]; omega]
theorem sub_gcd {S : Int → Prop} (h : ∀ a b, S a → S b → S (a - b)) : ∀ (a b : Nat), S a → S b → S (Nat.gcd a b : Nat)
  | a, 0, ha, _ => by rw [Nat.gcd_zero_right]; exact ha
  | a, b + 1, ha, hb => by
    have e : Nat.gcd a (b + 1) = Nat.gcd (b + 1) (a % (b + 1)) := by rw [Nat.gcd_comm a, Nat.gcd_rec, Nat.gcd_comm]
    rw [e]
    have lt : a % (b + 1) < b + 1 := Nat.mod_lt _ (by omega)
    refine sub_gcd h (b + 1) (a % (b + 1)) hb ?_
    have := sub_mod h (a / (b + 1)) _ _ ha hb
    have q := Nat.div_add_mod a (b + 1)
    rw [show ((a % (b + 1) : Nat) : Int) = a - (a / (b + 1) : Nat) * (b + 1 : Nat) by
      have q' : (((b + 1) * (a / (b + 1)) + a % (b + 1) : Nat) : Int) = a := by rw [q]
      rw [Int.natCast_add, Int.natCast_mul, Int.mul_comm] at q'
      omega]
    exact this
termination_by a b => b
decreasing_by exact lt
theorem gcd_univ (g : Nat) (d : Int) : ((Nat.gcd g d.natAbs : Nat) : Int) ∣ g ∧ ((Nat.gcd g d.natAbs : Nat) : Int) ∣ d ∧ ∀ S : Int → Prop, (∀ a b, S a → S b → S (a - b)) → S g → S d → S (Nat.gcd g d.natAbs : Nat) := by
  refine ⟨Int.natCast_dvd_natCast.mpr (Nat.gcd_dvd_left _ _), ?_, fun S h h1 h2 => ?_⟩
  · have : ((Nat.gcd g d.natAbs : Nat) : Int) ∣ (d.natAbs : Int) := Int.natCast_dvd_natCast.mpr (Nat.gcd_dvd_right _ _)
    exact Int.dvd_natAbs.mp this
  · refine sub_gcd h _ _ h1 ?_
    rcases Int.natAbs_eq d with e | e
    · rw [← e]; exact h2
    · have h0 : S 0 := by have := h _ _ h2 h2; rwa [Int.sub_self] at this
      have := h _ _ h0 h2
      rwa [show (d.natAbs : Int) = 0 - d by omega]
theorem rounds_ok {n m : Nat} {ts : List Tie} {ss : List Nat} (hn1 : 1 ≤ n) (hn : n ≤ 8) (hm1 : 1 ≤ m) (hm : m ≤ 6) (ht : ts.length ≤ 12) (hsl : ss.length = ts.length) (hsm : ∀ s ∈ ss, s < m) (ok : ∀ p ∈ ts, OkT n p) (hc : ∀ v, v < n → Conn ts 0 v) (hR : ∀ g, RoundsIs n m ss ts g → R (.int (g : Nat)) c) : Ψ__law_rounds gm [webD n ts, .int m, .tup (nsD ss)] c R RX := by
  refine ⟨rfl, ?_⟩
  simp [atI0]
  refine ⟨by omega, for_rg (fun j s => ∃ hs x5 x6 x7 x8, Good n m ss ts hs ∧ (j < hs.length ∨ ∀ v, v < n → (hv hs v).isSome = true) ∧ s = ⟨[.d (webD n ts), .d (.int m), .d (.tup (nsD ss)), .own (.k (hsD hs)), .d (.int m), x5, x6, x7, x8], c⟩) ⟨[(0, 0)], _, _, _, _, good_0 hn1, .inl (by simp), rfl⟩ ?_ ?_⟩
  · rintro s ⟨hs, x5, x6, x7, x8, hg, hall, rfl⟩
    have hlen : hs.length ≤ n := by
      have := nodup_lt n (hs.map Prod.fst) hg.nd (by
        intro x hx
        obtain ⟨q, hq, rfl⟩ := List.mem_map.mp hx
        exact hg.lt q hq)
      simpa using this
    have hall : ∀ v, v < n → (hv hs v).isSome = true := by
      rcases hall with h | h
      · omega
      · exact h
    simp [atI1]
    refine ⟨by omega, for_rg (fun t s => ∃ (g : Nat) (x6 x7 x8 : Slot), (((g : Int) ∣ m) ∧ (∀ i p, i < t → ts[i]? = some p → (g : Int) ∣ (hv hs p.1).getD 0 + sh ss i - (hv hs p.2).getD 0) ∧ ∀ S : Int → Prop, (∀ a b, S a → S b → S (a - b)) → S m → (∀ i p, i < t → ts[i]? = some p → S ((hv hs p.1).getD 0 + sh ss i - (hv hs p.2).getD 0)) → S g) ∧ s = ⟨[.d (webD n ts), .d (.int m), .d (.tup (nsD ss)), .own (.k (hsD hs)), .d (.int g), x5, x6, x7, x8], c⟩) ⟨m, _, _, _, ⟨Int.dvd_refl _, fun i p hi => absurd hi (by omega), fun S _ h _ => h⟩, rfl⟩ ?_ ?_⟩
    · rintro s ⟨g, x6, x7, x8, ⟨g1, g2, g3⟩, rfl⟩
      have hlt : ∀ {t : Nat} {p : Tie}, ts[t]? = some p → t < ts.length := fun h => (List.getElem?_eq_some_iff.mp h).1
      refine hR g ⟨fun v => (hv hs v).getD 0, by simp [hg.z], fun v hv' k => ?_, g1, fun t p hp => g2 t p (hlt hp) hp, fun S h1 h2 h3 => g3 S h1 h2 fun t p _ hp => h3 t p hp⟩
      have := hall v hv'
      cases e : hv hs v with
      | none => rw [e] at this; cases this
      | some x =>
        have := hg.cn v x e k
        show Conn _ _ (plc m v (k + (hv hs v).getD 0))
        rw [e]
        exact this
    · rintro t s K ht' ⟨g, x6, x7, x8, ⟨g1, g2, g3⟩, rfl⟩ hK
      obtain ⟨p, hp⟩ : ∃ p, ts[t]? = some p := ⟨ts[t], by simp [ht']⟩
      obtain ⟨st, hst⟩ : ∃ st, ss[t]? = some st := ⟨ss[t], by simp [hsl, ht']⟩
      have hsh : sh ss t = st := by simp [sh, hst]
      obtain ⟨o1, o2, o3⟩ := ok p (List.mem_of_getElem? hp)
      have f1 := hall _ o1
      have f2 := hall _ o2
      cases e1 : hv hs p.1 with
      | none => rw [e1] at f1; cases f1
      | some a =>
      cases e2 : hv hs p.2 with
      | none => rw [e2] at f2; cases f2
      | some b =>
      have hst6 : st < m := hsm st (List.mem_of_getElem? hst)
      have b1 := hg.bd _ _ e1
      have b2 := hg.bd _ _ e2
      simp [atI0, atI1, atI_nat, hp, valD_hs, e1, e2, hst]
      refine gcd_ok ?_ ?_
      · refine intBits_le_iff.mpr (Nat.lt_of_lt_of_le (m := 2 ^ 10) ?_ (Nat.pow_le_pow_right (by omega) (by omega)))
        omega
      · have gd := gcd_univ g (a + st - b)
        simp only [Int.natAbs_natCast]
        refine hK _ ⟨Nat.gcd g (a + st - b).natAbs, _, _, _, ⟨?_, ?_, ?_⟩, rfl⟩
        · exact Int.dvd_trans gd.1 g1
        · intro i q hi hq
          by_cases e : i = t
          · subst e
            rw [hp] at hq
            cases hq
            rw [e1, e2, hsh]
            exact gd.2.1
          · exact Int.dvd_trans gd.1 (g2 i q (by omega) hq)
        · intro S h1 h2 h3
          refine gd.2.2 S h1 (g3 S h1 h2 fun i q hi hq => h3 i q (by omega) hq) ?_
          have := h3 t p (by omega) hp
          rw [e1, e2, hsh] at this
          exact this
  · rintro j s K hj ⟨hs0, x5, x6, x7, x8, hg, hall, rfl⟩ hK
    simp [atI1]
    refine ⟨by omega, for_rg (fun t s => ∃ hs x6 x7 x8, Turn n m ss ts hs0 t hs ∧ s = ⟨[.d (webD n ts), .d (.int m), .d (.tup (nsD ss)), .own (.k (hsD hs)), .d (.int m), .d (.int j), x6, x7, x8], c⟩) ⟨hs0, _, _, _, ⟨hg, fun _ h => h, .inr ⟨rfl, fun i p hi => absurd hi (by omega)⟩⟩, rfl⟩ ?_ ?_⟩
    · rintro s ⟨hs, x6, x7, x8, h, rfl⟩
      refine hK _ ⟨hs, _, _, _, _, h.good, ?_, rfl⟩
      rcases hall with q | q
      · rcases h.gr with g | ⟨rfl, g⟩
        · exact .inl (by omega)
        · refine .inr fun v hv' => closed_all h.good (fun p hp => ?_) (hc v hv')
          obtain ⟨i, hi, e⟩ := List.getElem_of_mem hp
          exact g i p hi (by rw [List.getElem?_eq_getElem hi, e])
      · exact .inr fun v hv' => h.up v (q v hv')
    · rintro t s K ht' ⟨hs, x6, x7, x8, h, rfl⟩ hK
      obtain ⟨p, hp⟩ : ∃ p, ts[t]? = some p := ⟨ts[t], by simp [ht']⟩
      obtain ⟨st, hst⟩ : ∃ st, ss[t]? = some st := ⟨ss[t], by simp [hsl, ht']⟩
      have hsh : sh ss t = st := by simp [sh, hst]
      obtain ⟨o1, o2, o3⟩ := ok p (List.mem_of_getElem? hp)
      have hlen : hs.length ≤ n := by
        have := nodup_lt n (hs.map Prod.fst) h.good.nd (by
          intro x hx
          obtain ⟨q, hq, rfl⟩ := List.mem_map.mp hx
          exact h.good.lt q hq)
        simpa using this
      have hst6 : st < m := hsm st (List.mem_of_getElem? hst)
      simp [atI0, atI1, atI_nat, hp, valD_hs]
      cases e1 : hv hs p.1 with
      | none =>
        cases e2 : hv hs p.2 with
        | none =>
          simp [valD_hs, e1, e2]
          exact hK _ ⟨hs, _, _, _, h.id hp (by simp [Cl, e1, e2]), rfl⟩
        | some b =>
          have hg : Good n m ss ts (hs ++ [(p.1, b - st)]) := by
            refine good_add h.good e1 o1 ?_ fun k => ?_
            · have := h.good.bd _ _ e2
              omega
            · have q1 := h.good.cn _ _ e2 k
              have q2 := plc_tie (ss := ss) hm1 hp (k + (b - st))
              rw [hsh, show k + (b - st) + (st : Int) = k + b by omega] at q2
              exact q1.trans q2.symm
          simp [valD_hs, e1, e2, atI_nat, hst]
          refine ⟨by omega, ?_⟩
          rw [putD_hs e1]
          exact hK _ ⟨_, _, _, _, h.add e1 hg, rfl⟩
      | some a =>
        cases e2 : hv hs p.2 with
        | none =>
          have hg : Good n m ss ts (hs ++ [(p.2, a + st)]) := by
            refine good_add h.good e2 o2 ?_ fun k => ?_
            · have := h.good.bd _ _ e1
              omega
            · have q1 := h.good.cn _ _ e1 k
              have q2 := plc_tie (ss := ss) hm1 hp (k + a)
              rw [hsh, Int.add_assoc] at q2
              exact q1.trans q2
          simp [valD_hs, e1, e2, atI_nat, hst]
          refine ⟨by omega, ?_⟩
          rw [putD_hs e2]
          have f1 : hv (hs ++ [(p.2, a + (st : Int))]) p.1 = some a := by rw [hv_app e2, if_neg o3, e1]
          have f2 : hv (hs ++ [(p.2, a + (st : Int))]) p.2 = some (a + st) := by rw [hv_app e2, if_pos rfl]
          have ha := h.add e2 hg
          generalize hs ++ [(p.2, a + (st : Int))] = hs2 at f1 f2 ha ⊢
          simp [valD_hs, f1, f2]
          exact hK _ ⟨_, _, _, _, ha, rfl⟩
        | some b =>
          simp [valD_hs, e1, e2]
          exact hK _ ⟨hs, _, _, _, h.id hp (by simp [Cl, e1, e2]), rfl⟩
end K78
namespace K78
open PySem DL
/-! ### how many components a cover has -/
theorem cvs_mem {m : Nat} {ss : List Nat} {ts : List Tie} {a b : Nat} (h : (a, b) ∈ cvs m ss ts) : ∃ (t : Nat) (p : Tie) (k : Nat), ts[t]? = some p ∧ k < m ∧ a = p.1 * m + k ∧ b = p.2 * m + (k + sh ss t) % m := by
  unfold cvs at h
  rw [← cvZ_fst] at h
  obtain ⟨z, hz, e⟩ := List.mem_map.mp h
  obtain ⟨i, p, k, h1, h2, rfl⟩ := cvZ_mem hz
  cases e
  rw [Nat.zero_add]
  exact ⟨i, p, k, h1, h2, rfl, rfl⟩
theorem div_at {m a k : Nat} (hk : k < m) : (a * m + k) / m = a := by
  rw [Nat.mul_comm, Nat.mul_add_div (by omega), Nat.div_eq_of_lt hk, Nat.add_zero]
theorem mod_at {m a k : Nat} (hk : k < m) : (a * m + k) % m = k := by
  rw [Nat.mul_comm, Nat.mul_add_mod, Nat.mod_eq_of_lt hk]
theorem down {m : Nat} {ss : List Nat} {ts : List Tie} (hm : 1 ≤ m) {a b : Nat} (h : Conn (cvs m ss ts) a b) : Conn ts (a / m) (b / m) := by
  induction h with
  | refl => exact .refl _
  | symm _ ih => exact .symm ih
  | trans _ _ h1 h2 => exact h1.trans h2
  | tie h =>
    obtain ⟨t, p, k, h1, h2, rfl, rfl⟩ := cvs_mem h
    rw [div_at h2, div_at (Nat.mod_lt _ hm)]
    exact .tie (List.mem_of_getElem? h1)
theorem two_of {out : List Int} {a b : Int} (ha : a ∈ out) (hb : b ∈ out) (h : a ≠ b) : 1 < out.length := by
  match out, ha, hb with
  | [x], ha, hb => simp at ha hb; omega
  | _ :: _ :: _, _, _ => simp
theorem one_of {out : List Int} (h : out.length ≤ 1) {a b : Int} (ha : a ∈ out) (hb : b ∈ out) : a = b := by
  by_cases e : a = b
  · exact e
  · have := two_of ha hb e
    omega
theorem lots_up {n m : Nat} {ss : List Nat} {ts : List Tie} {r r2 : Int} (hm : 1 ≤ m) (h : LotsIs n ts r) (h2 : LotsIs (n * m) (cvs m ss ts) r2) (hr : 1 < r) : 1 < r2 := by
  obtain ⟨l, out, hl, ho, hmem, rfl⟩ := h
  obtain ⟨l2, out2, hl2, ho2, hmem2, rfl⟩ := h2
  match out, ho, hr with
  | u :: v :: _, ho, _ =>
    have huv : u < v := (List.pairwise_cons.mp ho).1 v (by simp)
    obtain ⟨u', hu, eu⟩ := (hmem u).mp (by simp)
    obtain ⟨v', hv', ev⟩ := (hmem v).mp (by simp)
    obtain ⟨a, ha, ea⟩ := List.getElem_of_mem hu
    obtain ⟨b, hb, eb⟩ := List.getElem_of_mem hv'
    have bnd : ∀ a, a < n → a * m < n * m := fun a h => Nat.mul_lt_mul_of_pos_right h hm
    have ha2 := bnd a (by rw [← hl.len]; exact ha)
    have hb2 := bnd b (by rw [← hl.len]; exact hb)
    have ha3 : a * m < l2.length := by rw [hl2.len]; exact ha2
    have hb3 : b * m < l2.length := by rw [hl2.len]; exact hb2
    have ne : l2[a * m] ≠ l2[b * m] := by
      intro e
      have q := down hm (hl2.of _ _ ha2 hb2 (by rw [List.getElem?_eq_getElem ha3, List.getElem?_eq_getElem hb3, e]))
      rw [Nat.mul_div_cancel _ hm, Nat.mul_div_cancel _ hm] at q
      have := hl.to _ _ q
      rw [List.getElem?_eq_getElem ha, List.getElem?_eq_getElem hb, ea, eb] at this
      cases this
      omega
    have := two_of (out := out2) (a := (l2[a * m] : Nat)) (b := (l2[b * m] : Nat)) ((hmem2 _).mpr ⟨_, List.getElem_mem _, rfl⟩) ((hmem2 _).mpr ⟨_, List.getElem_mem _, rfl⟩) (by omega)
    omega
theorem lots_one {n : Nat} {ts : List Tie} {r : Int} (hn : 1 ≤ n) (h : LotsIs n ts r) (hr : ¬ 1 < r) (v : Nat) (hv : v < n) : Conn ts 0 v := by
  obtain ⟨l, out, hl, ho, hmem, rfl⟩ := h
  have h0 : 0 < l.length := by rw [hl.len]; omega
  have h1 : v < l.length := by rw [hl.len]; omega
  refine hl.of 0 v (by omega) hv ?_
  rw [List.getElem?_eq_getElem h0, List.getElem?_eq_getElem h1]
  have := one_of (out := out) (a := (l[0] : Nat)) (b := (l[v] : Nat)) (by omega) ((hmem _).mpr ⟨_, List.getElem_mem _, rfl⟩) ((hmem _).mpr ⟨_, List.getElem_mem _, rfl⟩)
  congr 1
  omega
/-- which root place a place is tied to -/
def phi (m : Nat) (g : Nat) (h : Nat → Int) (p : Nat) : Int := ((p % m : Nat) - h (p / m)) % (g : Int)
theorem phi_tie {m g : Nat} {ss : List Nat} {ts : List Tie} {h : Nat → Int} (hm : 1 ≤ m) (g1 : (g : Int) ∣ m) (g2 : ∀ t p, ts[t]? = some p → (g : Int) ∣ h p.1 + sh ss t - h p.2) {a b : Nat} (q : Conn (cvs m ss ts) a b) : phi m g h a = phi m g h b := by
  induction q with
  | refl => rfl
  | symm _ ih => exact ih.symm
  | trans _ _ h1 h2 => exact h1.trans h2
  | tie q =>
    obtain ⟨t, p, k, h1, h2, rfl, rfl⟩ := cvs_mem q
    unfold phi
    rw [div_at h2, mod_at h2, div_at (Nat.mod_lt _ hm), mod_at (Nat.mod_lt _ hm)]
    rw [Int.emod_eq_emod_iff_emod_sub_eq_zero]
    apply Int.emod_eq_zero_of_dvd
    have q := Nat.div_add_mod (k + sh ss t) m
    have q' : ((m * ((k + sh ss t) / m) + (k + sh ss t) % m : Nat) : Int) = (k + sh ss t : Nat) := by rw [q]
    rw [Int.natCast_add, Int.natCast_mul] at q'
    have e : ((k : Nat) : Int) - h p.1 - (((k + sh ss t) % m : Nat) - h p.2) = (m : Int) * ((k + sh ss t) / m : Nat) - (h p.1 + sh ss t - h p.2) := by
      have : ((k + sh ss t : Nat) : Int) = k + sh ss t := by push_cast; rfl
      omega
    rw [e]
    exact Int.dvd_sub (Int.dvd_mul_of_dvd_left g1) (g2 t p h1)
theorem plc_at {m : Nat} (hm : 1 ≤ m) (p : Nat) : p = plc m (p / m) (p % m : Nat) := by
  have h1 : p % m < m := Nat.mod_lt _ hm
  have h2 := Nat.div_add_mod p m
  unfold plc
  rw [← Int.natCast_emod, Int.toNat_natCast, Nat.mod_mod, Nat.mul_comm]
  omega
theorem phi_conn {n m g : Nat} {ss : List Nat} {ts : List Tie} {h : Nat → Int} (hm : 1 ≤ m) (ok : ∀ p ∈ ts, OkT n p) (hcn : ∀ v, v < n → ∀ k : Int, Conn (cvs m ss ts) (plc m 0 k) (plc m v (k + h v)))
    (hS : ∀ S : Int → Prop, (∀ a b, S a → S b → S (a - b)) → S m → (∀ t p, ts[t]? = some p → S (h p.1 + sh ss t - h p.2)) → S g) {p q : Nat} (hp : p < n * m) (hq : q < n * m) (e : phi m g h p = phi m g h q) : Conn (cvs m ss ts) p q := by
  let S : Int → Prop := fun e => ∀ x, Conn (cvs m ss ts) (plc m 0 x) (plc m 0 (x + e))
  have s1 : ∀ a b, S a → S b → S (a - b) := by
    intro a b ha hb x
    have q1 := ha x
    have q2 := hb (x + (a - b))
    rw [show x + (a - b) + b = x + a by omega] at q2
    exact q1.trans q2.symm
  have sg : S g := by
    refine hS S s1 ?_ ?_
    · intro x
      have : plc m 0 (x + m) = plc m 0 x := by
        unfold plc
        rw [Int.add_emod_right]
      rw [this]
      exact .refl _
    · intro t p ht x
      obtain ⟨o1, o2, _⟩ := ok p (List.mem_of_getElem? ht)
      have q1 := hcn _ o1 x
      have q2 := plc_tie (ss := ss) hm ht (x + h p.1)
      have q3 := hcn _ o2 (x + (h p.1 + sh ss t - h p.2))
      rw [show x + (h p.1 + sh ss t - h p.2) + h p.2 = x + h p.1 + sh ss t by omega] at q3
      exact (q1.trans q2).trans q3.symm
  have s0 : S 0 := by
    have := s1 _ _ sg sg
    rwa [Int.sub_self] at this
  have sm : ∀ j : Int, S (g * j) := by
    intro j
    rcases Int.natAbs_eq j with e | e
    · have a := sub_mod s1 j.natAbs 0 g s0 sg
      have b := s1 _ _ s0 a
      rw [e]
      rwa [show (0 : Int) - (0 - (j.natAbs : Int) * g) = g * j.natAbs by rw [Int.mul_comm]; omega] at b
    · have a := sub_mod s1 j.natAbs 0 g s0 sg
      rw [e]
      rwa [show (0 : Int) - (j.natAbs : Int) * g = g * -(j.natAbs : Int) by rw [Int.mul_neg, Int.mul_comm]; omega] at a
  have dv : ∀ {p}, p < n * m → p / m < n := fun h => Nat.div_lt_of_lt_mul (by rw [Nat.mul_comm]; exact h)
  have base : ∀ {p}, p < n * m → Conn (cvs m ss ts) (plc m 0 ((p % m : Nat) - h (p / m))) p := by
    intro p hp
    have := hcn _ (dv hp) ((p % m : Nat) - h (p / m))
    rw [show ((p % m : Nat) : Int) - h (p / m) + h (p / m) = (p % m : Nat) by omega, ← plc_at hm p] at this
    exact this
  unfold phi at e
  rw [Int.emod_eq_emod_iff_emod_sub_eq_zero] at e
  obtain ⟨j, hj⟩ := Int.dvd_of_emod_eq_zero e
  have := sm j ((q % m : Nat) - h (q / m))
  rw [← hj, show ((q % m : Nat) : Int) - h (q / m) + ((p % m : Nat) - h (p / m) - ((q % m : Nat) - h (q / m))) = (p % m : Nat) - h (p / m) by omega] at this
  exact ((base hp).symm.trans this.symm).trans (base hq)
end K78
namespace K78
open PySem DL
theorem nodup_map {α β : Type} [DecidableEq α] (f : α → β) : ∀ (l : List α), l.Nodup → (∀ a ∈ l, ∀ b ∈ l, f a = f b → a = b) → (l.map f).Nodup
  | [], _, _ => by simp
  | x :: l, hd, hi => by
    rw [List.nodup_cons] at hd
    rw [List.map_cons, List.nodup_cons]
    refine ⟨?_, nodup_map f l hd.2 fun a ha b hb => hi a (by simp [ha]) b (by simp [hb])⟩
    intro q
    obtain ⟨y, hy, e⟩ := List.mem_map.mp q
    have := hi x (by simp) y (by simp [hy]) e.symm
    subst this
    exact hd.1 hy
theorem nodup_le {α : Type} [DecidableEq α] {A B : List α} (hA : A.Nodup) (h : ∀ a ∈ A, a ∈ B) : A.length ≤ B.length := by
  have := nodup_lt B.length (A.map fun a => B.idxOf a) (nodup_map _ _ hA (by
    intro a ha b hb e
    have h1 := List.getElem_idxOf (List.idxOf_lt_length_of_mem (h a ha))
    have h2 := List.getElem_idxOf (List.idxOf_lt_length_of_mem (h b hb))
    simp only [e] at h1
    exact h1.symm.trans h2)) (by
    intro x hx
    obtain ⟨a, ha, rfl⟩ := List.mem_map.mp hx
    exact List.idxOf_lt_length_of_mem (h a ha))
  simpa using this
theorem sorted_nodup {out : List Int} (h : out.Pairwise (· < ·)) : out.Nodup := h.imp fun q => by omega
theorem lots_rounds {n m g : Nat} {ss : List Nat} {ts : List Tie} {r : Int} (hn : 1 ≤ n) (hm : 1 ≤ m) (ok : ∀ p ∈ ts, OkT n p) (hl : LotsIs (n * m) (cvs m ss ts) r) (hg : RoundsIs n m ss ts g) : r = g := by
  obtain ⟨l, out, hl, ho, hmem, rfl⟩ := hl
  obtain ⟨h, h0, hcn, g1, g2, hS⟩ := hg
  have g0 : 0 < g := by
    rcases Nat.eq_zero_or_pos g with e | e
    · subst e
      obtain ⟨j, hj⟩ := g1
      simp at hj
      omega
    · exact e
  have gm : g ≤ m := by
    have := Int.natCast_dvd_natCast.mp g1
    exact Nat.le_of_dvd hm this
  have nm : m ≤ n * m := Nat.le_mul_of_pos_left m hn
  have phi_eq : ∀ {a b}, a < n * m → b < n * m → (l[a]? = l[b]? ↔ phi m g h a = phi m g h b) := fun ha hb => ⟨fun e => phi_tie hm g1 g2 (hl.of _ _ ha hb e), fun e => hl.to _ _ (phi_conn hm ok hcn hS ha hb e)⟩
  have p0 : ∀ p, 0 ≤ phi m g h p := fun p => Int.emod_nonneg _ (by omega)
  have p1 : ∀ p, phi m g h p < g := fun p => Int.emod_lt_of_pos _ (by omega)
  have up : out.length ≤ g := by
    have := nodup_lt g (out.map fun v => (phi m g h (l.idxOf v.toNat)).toNat) (nodup_map _ _ (sorted_nodup ho) (by
      intro a ha b hb e
      obtain ⟨u, hu, rfl⟩ := (hmem a).mp ha
      obtain ⟨v, hv, rfl⟩ := (hmem b).mp hb
      simp only [Int.toNat_natCast] at e
      have iu := List.idxOf_lt_length_of_mem hu
      have iv := List.idxOf_lt_length_of_mem hv
      have h1 := List.getElem_idxOf iu
      have h2 := List.getElem_idxOf iv
      have e2 : phi m g h (l.idxOf u) = phi m g h (l.idxOf v) := by
        have a1 := p0 (l.idxOf u)
        have a2 := p0 (l.idxOf v)
        omega
      have := (phi_eq (by rw [← hl.len]; exact iu) (by rw [← hl.len]; exact iv)).mpr e2
      rw [List.getElem?_eq_getElem iu, List.getElem?_eq_getElem iv, h1, h2] at this
      cases this
      rfl)) (by
      intro x hx
      obtain ⟨a, ha, rfl⟩ := List.mem_map.mp hx
      have a1 := p0 (l.idxOf a.toNat)
      have a2 := p1 (l.idxOf a.toNat)
      omega)
    simpa using this
  have dn : g ≤ out.length := by
    have lt : ∀ i, i < g → i < n * m := fun i h => by omega
    have pi : ∀ i, i < g → phi m g h i = i := by
      intro i hi
      unfold phi
      rw [Nat.mod_eq_of_lt (show i < m by omega), Nat.div_eq_of_lt (show i < m by omega), h0, Int.sub_zero]
      exact Int.emod_eq_of_lt (by omega) (by omega)
    have := nodup_le (A := (List.range g).map fun i => ((l.getD i 0 : Nat) : Int)) (B := out) (nodup_map _ _ List.nodup_range (by
      intro a ha b hb e
      simp at ha hb
      have la : a < l.length := by rw [hl.len]; exact lt a ha
      have lb : b < l.length := by rw [hl.len]; exact lt b hb
      rw [List.getD_eq_getElem?_getD, List.getD_eq_getElem?_getD, List.getElem?_eq_getElem la, List.getElem?_eq_getElem lb] at e
      simp at e
      have := (phi_eq (lt a ha) (lt b hb)).mp (by rw [List.getElem?_eq_getElem la, List.getElem?_eq_getElem lb]; exact congrArg some (Int.ofNat.inj e))
      rw [pi a ha, pi b hb] at this
      omega)) (by
      intro x hx
      obtain ⟨i, hi, rfl⟩ := List.mem_map.mp hx
      simp at hi
      have li : i < l.length := by rw [hl.len]; exact lt i hi
      refine (hmem _).mpr ⟨l[i], List.getElem_mem _, ?_⟩
      rw [List.getD_eq_getElem?_getD, List.getElem?_eq_getElem li]
      rfl)
    simpa using this
  omega
end K78
namespace K78
open PySem DL
open L2 (atI)
variable {gm : Gm} {c : Int} {R : D → Int → Prop} {RX : DX → Int → Prop}
/-! ### what is drawn -/
theorem draw {m : Int} (h0 : 0 < m) (h1 : m < 1000) (c0 : 0 ≤ c) (c1 : c < 500000000000) (h : ∀ r, 0 ≤ r → r < m → R (.int r) (c + 1)) : Ψ__law_draw gm [.int m] c R RX :=
  ⟨m, rfl, h0, by omega, c0, by omega, h⟩
theorem pick {xs : List D} (hx : xs ≠ []) (hl : xs.length < 1000) (c0 : 0 ≤ c) (c1 : c < 500000000000) (h : ∀ x ∈ xs, R x (c + 1)) : Ψ__law_pick gm [.lst xs] c R RX := by
  refine ⟨rfl, ?_⟩
  have hp : 0 < xs.length := List.length_pos_iff.mpr hx
  simp
  refine draw (by omega) (by omega) c0 c1 fun r r0 r1 => ?_
  obtain ⟨k, rfl⟩ := Int.eq_ofNat_of_zero_le r0
  have hk : k < xs.length := by omega
  refine ⟨xs[k], ?_, h _ (List.getElem_mem _)⟩
  rw [atI_nat, List.getElem?_eq_getElem hk]
theorem eraseP : ∀ (l : List D) (i : Nat) (h : i < l.length), (l[i] :: l.eraseIdx i).Perm l
  | a :: l, 0, h => .refl _
  | a :: l, i + 1, h => by
    have h' : i < l.length := Nat.lt_of_succ_lt_succ h
    exact (List.Perm.swap a l[i] (l.eraseIdx i)).trans ((eraseP l i h').cons a)
theorem shuffled {xs : List D} (hl : xs.length < 100) (c0 : 0 ≤ c) (c1 : c < 400000000000) (h : ∀ ys : List D, ys.Perm xs → R (.lst ys) (c + xs.length)) : Ψ__law_shuffled gm [.lst xs] c R RX := by
  refine ⟨rfl, ?_⟩
  simp
  refine ⟨by omega, for_rg (fun k s => ∃ (l f : List D) (x4 : Slot), (f ++ l).Perm xs ∧ f.length = k ∧ s = ⟨[.pen, .d (.lst xs), .own (.l l), .own (.l f), x4], c + k⟩) ⟨xs, [], .no, by simp, rfl, by simp⟩ ?_ ?_⟩
  · rintro s ⟨l, f, x4, hp, hf, rfl⟩
    have := hp.length_eq
    simp at this
    have : l = [] := List.eq_nil_of_length_eq_zero (by omega)
    subst this
    rw [List.append_nil] at hp
    simpa using h f hp
  · rintro k s K hk ⟨l, f, x4, hp, hf, rfl⟩ hK
    have hlen := hp.length_eq
    simp at hlen
    simp
    refine draw (by omega) (by omega) (by omega) (by omega) fun r r0 r1 => ?_
    obtain ⟨i, rfl⟩ := Int.eq_ofNat_of_zero_le r0
    have hi : i < l.length := by omega
    simp [hi]
    refine ⟨by omega, by omega, ?_⟩
    have e : c + (k : Int) + 1 = c + ((k + 1 : Nat) : Int) := by omega
    rw [e]
    exact hK _ ⟨l.eraseIdx i, f ++ [l[i]], _, by
      refine List.Perm.trans ?_ hp
      rw [List.append_assoc]
      exact List.Perm.append_left f (eraseP l i hi), by simp [hf], rfl⟩
theorem two_first {n : Nat} (hn : 2 ≤ n) {ys : List D} (h : ys.Perm ((List.range n).map fun i : Nat => D.int i)) : ∃ p : Tie, OkT n p ∧ cutD ys none (some 2) = [.int p.1, .int p.2] := by
  have hl := h.length_eq
  simp at hl
  match ys, hl, h with
  | a :: b :: rest, hl, h =>
    have m : ∀ x ∈ a :: b :: rest, ∃ i : Nat, i < n ∧ x = .int i := by
      intro x hx
      have := h.mem_iff.mp hx
      simp at this
      obtain ⟨i, hi, rfl⟩ := this
      exact ⟨i, hi, rfl⟩
    obtain ⟨i, hi, rfl⟩ := m a (by simp)
    obtain ⟨j, hj, rfl⟩ := m b (by simp)
    have nd : ((List.range n).map fun i : Nat => D.int i).Nodup := by
      have : ∀ l : List Nat, l.Nodup → (l.map fun i : Nat => D.int i).Nodup := by
        intro l
        induction l with
        | nil => simp
        | cons a l ih =>
          intro hd
          rw [List.nodup_cons] at hd
          rw [List.map_cons, List.nodup_cons]
          refine ⟨fun q => ?_, ih hd.2⟩
          obtain ⟨y, hy, e⟩ := List.mem_map.mp q
          have : y = a := by cases e; rfl
          exact hd.1 (this ▸ hy)
      exact this _ List.nodup_range
    have nd2 := h.nodup_iff.mpr nd
    refine ⟨(i, j), ⟨hi, hj, fun e => ?_⟩, ?_⟩
    · simp only at e
      subst e
      simp at nd2
    · have e2 : min 2 (rest.length + 1 + 1) = 2 := by omega
      simp [cutD, HT.sIx, e2]
  | [], hl, _ => simp at hl; omega
  | [_], hl, _ => simp at hl; omega
theorem plain_web {most ties : Nat} (hm1 : 1 ≤ most) (hm8 : most ≤ 8) (ht : ties ≤ 12) (c0 : 0 ≤ c) (c1 : c < 300000000000) (h : ∀ (n : Nat) (ts : List Tie) (c' : Int), 1 ≤ n → n ≤ most → ts.length ≤ ties → (∀ p ∈ ts, OkT n p) → c ≤ c' → c' ≤ c + 100 → R (webD n ts) c') : Ψ__law_plain_web gm [.int most, .int ties] c R RX := by
  refine ⟨rfl, ?_⟩
  simp
  refine draw (by omega) (by omega) c0 (by omega) fun r r0 r1 => ?_
  obtain ⟨q, rfl⟩ := Int.eq_ofNat_of_zero_le r0
  simp
  split
  · rename_i h1
    refine draw (by omega) (by omega) (by omega) (by omega) fun r2 r20 r21 => ?_
    obtain ⟨k, rfl⟩ := Int.eq_ofNat_of_zero_le r20
    simp
    refine ⟨by omega, for_rg (fun k s => ∃ (ts : List Tie) (x5 : Slot) (c' : Int), ts.length = k ∧ (∀ p ∈ ts, OkT (q + 1) p) ∧ c + 2 ≤ c' ∧ c' ≤ c + 2 + 8 * k ∧ s = ⟨[.pen, .d (.int most), .d (.int ties), .d (.int (1 + q)), .own (.l (tsD ts)), x5], c'⟩) ⟨[], .no, c + 1 + 1, rfl, by simp, by omega, by omega, rfl⟩ ?_ ?_⟩
    · rintro s ⟨ts, x5, c', hl, ok, hc, hc2, rfl⟩
      simp
      have e : (1 : Int) + q = ((q + 1 : Nat) : Int) := by omega
      rw [e]
      exact h (q + 1) ts c' (by omega) (by omega) (by omega) ok (by omega) (by omega)
    · rintro i s K hi ⟨ts, x5, c', hl, ok, hc, hc2, rfl⟩ hK
      simp
      refine ⟨by omega, ?_⟩
      have e : ((1 : Int) + q).toNat = q + 1 := by omega
      rw [e]
      refine shuffled (by simp; omega) (by omega) (by omega) fun ys hp => ?_
      obtain ⟨p, ok2, e2⟩ := two_first (n := q + 1) (by omega) hp
      simp [e2]
      refine ⟨by omega, hK _ ⟨ts ++ [p], .d (.int i), c' + (q + 1 : Nat), by simp [hl], ?_, by omega, by omega, ?_⟩⟩
      · intro p' hp'
        rcases List.mem_append.mp hp' with z | z
        · exact ok p' z
        · simp at z; subst z; exact ok2
      · simp [S.set]
  · rename_i h1
    have h1 : q = 0 := by omega
    subst h1
    exact h 1 [] (c + 1) (by omega) (by omega) (by simp) (by simp) (by omega) (by omega)
end K78
/-! the case's text, cut -/
namespace K78
open PySem PySem.Spec PyProof.Rows L2 DL
def T8__law_case (gm : Gm) (RX : DX → Int → Prop) : DS := (dSeq (dIfS (tCm oNe (dCB cRepr (aCons (dTup (aCons (dVar 7) (aCons (dVar 8) aNil))) aNil)) (dCB cRepr (aCons (dCall (Ψ__law_own gm) RX (aCons (dVar 2) (aCons (dVar 1) (aCons (dVar 3) aNil)))) aNil))) (dRet (dC (.bl false))) (dNext)) (dSeq (dIfS ((tOrD (tCm (oIsB true) (dCall (Ψ_is_web_map gm) RX (aCons (dVar 7) (aCons (dVar 2) (aCons (dVar 8) aNil)))) (dC (.bl true))) (tCm (oIsB true) (dCall (Ψ_is_cover gm) RX (aCons (dVar 7) (aCons (dVar 2) (aCons (dVar 8) aNil)))) (dC (.bl true))))) (dRet (dC (.bl false))) (dNext)) (dSeq (dIfS (tCm (oI0 fun i j => .bl (decide (i > j))) (dCall (Ψ__law_lots gm) RX (aCons (dOp oIx (dVar 2) (dC (.int 0))) (aCons (dOp oIx (dVar 2) (dC (.int 1))) aNil))) (dC (.int 1))) (dRet (dOp (oI0 fun i j => .bl (decide (i > j))) (dCall (Ψ__law_lots gm) RX (aCons (dOp oIx (dVar 7) (dC (.int 0))) (aCons (dOp oIx (dVar 7) (dC (.int 1))) aNil))) (dC (.int 1)))) (dNext)) (dRet (dOp oEq (dCall (Ψ__law_lots gm) RX (aCons (dOp oIx (dVar 7) (dC (.int 0))) (aCons (dOp oIx (dVar 7) (dC (.int 1))) aNil))) (dCall (Ψ__law_rounds gm) RX (aCons (dVar 2) (aCons (dVar 1) (aCons (dVar 3) aNil)))))))))
def T7__law_case (gm : Gm) (RX : DX → Int → Prop) : DS := (dSeq (dAsg (dCall (Ψ_cover_by gm) RX (aCons (dVar 5) (aCons (dVar 1) (aCons (dVar 6) aNil)))) (gTp 2 (gsC (fun d s R => R (s.set 7 (.d d))) (gsC (fun d s R => R (s.set 8 (.d d))) gsN)))) (T8__law_case gm RX))
def T6__law_case (gm : Gm) (RX : DX → Int → Prop) : DS := (dSeq (dIfS (tCm (oI0 fun i j => .bl (decide (i > j))) (dOp oMulX (dCB cLen (aCons (dOp oIx (dVar 2) (dC (.int 1))) aNil)) (dVar 1)) (dC (.int 12))) (dRet (dOp oEq (dCB cRepr (aCons (dFaultLam [5, 1, 6] (fun env c R RX => env.length = 3 ∧ (dCall (Ψ_cover_by gm) RX (aCons (dVar 0) (aCons (dVar 1) (aCons (dVar 2) aNil)))) ⟨env.map .d, c⟩ fun d s => R d s.c) (tags gm)) aNil)) (dCB cRepr (aCons (dTup (aCons (dC (.str "many")) (aCons (dC (.str "ties")) (aCons (dOp oMulX (dCB cLen (aCons (dOp oIx (dVar 2) (dC (.int 1))) aNil)) (dVar 1)) (aCons (dC (.int 12)) aNil))))) aNil)))) (dNext)) (T7__law_case gm RX))
def T5__law_case (gm : Gm) (RX : DX → Int → Prop) : DS := (dSeq (dIfS (tCm (oI0 fun i j => .bl (decide (i > j))) (dOp oMulX (dOp oIx (dVar 2) (dC (.int 0))) (dVar 1)) (dC (.int 8))) (dRet (dOp oEq (dCB cRepr (aCons (dFaultLam [5, 1, 6] (fun env c R RX => env.length = 3 ∧ (dCall (Ψ_cover_by gm) RX (aCons (dVar 0) (aCons (dVar 1) (aCons (dVar 2) aNil)))) ⟨env.map .d, c⟩ fun d s => R d s.c) (tags gm)) aNil)) (dCB cRepr (aCons (dTup (aCons (dC (.str "many")) (aCons (dC (.str "places")) (aCons (dOp oMulX (dOp oIx (dVar 2) (dC (.int 0))) (dVar 1)) (aCons (dC (.int 8)) aNil))))) aNil)))) (dNext)) (T6__law_case gm RX))
def T4__law_case (gm : Gm) (RX : DX → Int → Prop) : DS := (dSeq (dAsg (dTup (aCons (dCallP 0 (Ψ__law_pick gm) RX (aCons (dFz (lLst (aCons (dVar 2) (aCons (dFz (lLst (aCons (dOp oIx (dVar 2) (dC (.int 0))) (aCons (dFz (dLc [4] (dSeq2 (dOp oIx (dVar 2) (dC (.int 1)))) (fun d s R => R (s.set 4 (.d d))) dYes (dFz (lList (aCons (dVar 4) aNil))))) aNil)))) aNil)))) aNil)) (aCons (dCallP 0 (Ψ__law_pick gm) RX (aCons (dFz (lLst (aCons (dVar 3) (aCons (dFz (lList (aCons (dVar 3) aNil))) aNil)))) aNil)) aNil))) (gTp 2 (gsC (fun d s R => R (s.set 5 (.d d))) (gsC (fun d s R => R (s.set 6 (.d d))) gsN)))) (T5__law_case gm RX))
def T3__law_case (gm : Gm) (RX : DX → Int → Prop) : DS := (dSeq (dSet 3 (dCB cTup (aCons (dFz (dLc [4] (dSeq2 (dOp oIx (dVar 2) (dC (.int 1)))) (fun d s R => R (s.set 4 (.d d))) dYes (dCallP 0 (Ψ__law_draw gm) (fun _ _ => False) (aCons (dVar 1) aNil)))) aNil))) (T4__law_case gm RX))
def T2__law_case (gm : Gm) (RX : DX → Int → Prop) : DS := (dSeq (dIfS (tCm oEq (dCallP 0 (Ψ__law_draw gm) RX (aCons (dC (.int 3)) aNil)) (dC (.int 0))) (dSet 2 (dCallP 0 (Ψ__law_plain_web gm) RX (aCons (dC (.int 8)) (aCons (dC (.int 12)) aNil)))) (dNext)) (T3__law_case gm RX))
def T1__law_case (gm : Gm) (RX : DX → Int → Prop) : DS := (dSeq (dSet 2 (dCallP 0 (Ψ__law_plain_web gm) RX (aCons (dCB cMax2 (aCons (dC (.int 1)) (aCons (dOp (oI CDiv fun i j => .int (i / j)) (dC (.int 8)) (dVar 1)) aNil))) (aCons (dOp (oI CDiv fun i j => .int (i / j)) (dC (.int 12)) (dVar 1)) aNil)))) (T2__law_case gm RX))
theorem cut__law_case {gm : Gm} {ds : List D} {c : Int} {R : D → Int → Prop} {RX : DX → Int → Prop} : Ψ__law_case gm ds c R RX = (ds.length = 0 ∧ (dSeq (dSet 1 (dOp oAddX (dC (.int 1)) (dCallP 0 (Ψ__law_draw gm) RX (aCons (dC (.int 6)) aNil)))) (T1__law_case gm RX)) ⟨slots0 true 9 ds, c⟩ { nx := fun s => R .non s.c, rt := fun d s => R d s.c }) := rfl
end K78
namespace K78
open PySem DL
open L2 (atI)
variable {gm : Gm} {c : Int} {R : D → Int → Prop} {RX : DX → Int → Prop}
/-! ### a case -/
theorem sw_ns {l : List Nat} (h : ∀ x ∈ l, x < 1000) : SwL 0 (41 * l.length) (nsD l) := by
  refine (swl_one (k := 0) (w := 40) fun d hd => ?_).up (Nat.le_refl _) (by simp)
  obtain ⟨x, hx, rfl⟩ := List.mem_map.mp hd
  have := h x hx
  exact sw_int (Nat.lt_of_lt_of_le (m := 1000) (by omega) (by decide))
theorem sw_ties {l : List Tie} (h : ∀ p ∈ l, p.1 < 1000 ∧ p.2 < 1000) : SwL 1 (83 * l.length) (tsD l) := by
  refine (swl_one (k := 1) (w := 82) fun d hd => ?_).up (Nat.le_refl _) (by simp)
  obtain ⟨p, hp, rfl⟩ := List.mem_map.mp hd
  obtain ⟨h1, h2⟩ := h p hp
  exact (sw_tup (swl_cons (sw_int (Nat.lt_of_lt_of_le (m := 1000) (by omega) (by decide))) (swl_cons (sw_int (Nat.lt_of_lt_of_le (m := 1000) (by omega) (by decide))) swl_nil))).up (by omega) (by omega)
theorem sw_ends {Z : List (Tie × Nat)} (h : ∀ z ∈ Z, z.2 < 1000) : SwL 1 (83 * Z.length) (Z.map fun z => endD z.2) := by
  refine (swl_one (k := 1) (w := 82) fun d hd => ?_).up (Nat.le_refl _) (by simp)
  obtain ⟨z, hz, rfl⟩ := List.mem_map.mp hd
  have := h z hz
  exact (sw_tup (swl_cons (sw_int (Nat.lt_of_lt_of_le (m := 1000) (by omega) (by decide))) (swl_cons (sw_bl false) swl_nil))).up (by omega) (by omega)
theorem sw_web {n : Nat} {ts : List Tie} (hn : n ≤ 8) (ht : ts.length ≤ 12) (ok : ∀ p ∈ ts, OkT n p) : Sw 3 1100 (webD n ts) :=
  (sw_tup (swl_cons (sw_int (Nat.lt_of_lt_of_le (m := 1000) (by omega) (by decide))) (swl_cons (sw_tup (sw_ties fun p hp => by have := ok p hp; omega)) swl_nil))).up (by omega) (by omega)
theorem sw_cover {n m : Nat} {ts : List Tie} {ss : List Nat} (hm : 1 ≤ m) (h8 : n * m ≤ 8) (h12 : ts.length * m ≤ 12) (ok : ∀ p ∈ ts, OkT n p) : Sw 10 4000 (coverD n ts m ss) := by
  rw [coverD_eq]
  have zl := cvZ_len m (fun t => ss.getD t 0) ts 0
  have ht : ts.length ≤ 12 := Nat.le_trans (Nat.le_mul_of_pos_right _ hm) h12
  have hn : n ≤ 8 := Nat.le_trans (Nat.le_mul_of_pos_right _ hm) h8
  have okz := okZ (s := fun t => ss.getD t 0) hm ok
  have a := sw_web (n := n * m) (ts := (cvZ m (fun t => ss.getD t 0) 0 ts).map Prod.fst) h8 (by rw [List.length_map, zl]; exact h12) (by
    intro p hp
    obtain ⟨z, hz, rfl⟩ := List.mem_map.mp hp
    exact okz z hz)
  have b := sw_ns (l := psN n m) (by
    intro x hx
    have := (cov_of (s := fun t => ss.getD t 0) hm ok).pl x hx
    omega)
  have b2 : (psN n m).length = n * m := by simp [psN]
  have d := sw_ends (Z := cvZ m (fun t => ss.getD t 0) 0 ts) (by
    intro z hz
    obtain ⟨i, p, k, h1, h2, rfl⟩ := cvZ_mem hz
    have := (List.getElem?_eq_some_iff.mp h1).1
    simp
    have : ts.length ≤ 12 := ht
    omega)
  exact (sw_tup (swl_cons a (swl_cons (sw_tup (swl_cons (sw_tup b) (swl_cons (sw_tup d) swl_nil))) swl_nil))).up (by omega) (by rw [b2, zl]; omega)
theorem fit_many {x y : Str} {a b : Int} (hx : Sw 0 100 (.str x)) (hy : Sw 0 100 (.str y)) (ha : a.natAbs < 1000) (hb : b.natAbs < 1000) : ∃ p, pyE (.tup [.str x, .str y, .int a, .int b]) = some p ∧ Fit p :=
  (sw_tup (swl_cons hx (swl_cons hy (swl_cons (sw_int (Nat.lt_of_lt_of_le (m := 1000) (by omega) (by decide))) (swl_cons (sw_int (Nat.lt_of_lt_of_le (m := 1000) (by omega) (by decide))) swl_nil))))).fit (by omega) (by omega)
structure Ctx (n m : Nat) (ts : List Tie) (ss : List Nat) (hd row : D) : Prop where
  n1 : 1 ≤ n
  n8 : n ≤ 8
  m1 : 1 ≤ m
  m6 : m ≤ 6
  t12 : ts.length ≤ 12
  ok : ∀ p ∈ ts, OkT n p
  sl : ss.length = ts.length
  sm : ∀ s ∈ ss, s < m
  dh : dep 12 hd = true
  eh : tups hd = webD n ts
  dr : dep 12 row = true
  er : tups row = .tup (nsD ss)
  fh : flat hd = true
  fr : flat row = true
abbrev st7 (n m : Nat) (ts : List Tie) (ss : List Nat) (x4 : Slot) (hd row : D) (x7 x8 : Slot) (c : Int) : S := ⟨[.pen, .d (.int m), .d (webD n ts), .d (.tup (nsD ss)), x4, .d hd, .d row, x7, x8], c⟩
abbrev En (R : D → Int → Prop) : DEn := { nx := fun s => R .non s.c, rt := fun d s => R d s.c }
theorem t8_ok {n m : Nat} {ts : List Tie} {ss : List Nat} {hd row : D} {x4 : Slot} (h : Ctx n m ts ss hd row) (h8 : n * m ≤ 8) (h12 : ts.length * m ≤ 12) (hR : R (.bl true) c) :
    T8__law_case gm RX (st7 n m ts ss x4 hd row (.d (webD (n * m) (cvs m ss ts))) (.d (wayD (psN n m) (cvZ m (fun t => ss.getD t 0) 0 ts))) c) (En R) := by
  have h1 := h.m1
  have sw := sw_cover (ss := ss) h1 h8 h12 h.ok
  obtain ⟨p, hp, fp⟩ := sw.fit (by omega) (by omega)
  have hN1 : 1 ≤ n * m := Nat.mul_pos h.n1 h1
  have cov := cov_of (s := fun t => ss.getD t 0) h1 h.ok
  have lft := lift_of (n := n) (s := fun t => ss.getD t 0) (ts := ts) h1 h.m6 (fun t ht => by
    simp [h.sl, ht]
    exact h.sm _ (List.getElem_mem _))
  have okz := okZ (s := fun t => ss.getD t 0) h1 h.ok
  have zl : (cvZ m (fun t => ss.getD t 0) 0 ts).length ≤ 12 := by rw [cvZ_len]; exact h12
  have ec : cvs m ss ts = (cvZ m (fun t => ss.getD t 0) 0 ts).map Prod.fst := (cvZ_fst m _ ts 0).symm
  have okc : ∀ p ∈ cvs m ss ts, OkT (n * m) p := by
    intro p hp
    rw [ec] at hp
    obtain ⟨z, hz, rfl⟩ := List.mem_map.mp hp
    exact okz z hz
  have cl : (cvs m ss ts).length ≤ 12 := by rw [ec, List.length_map]; exact zl
  rw [coverD_eq, ← ec] at hp
  unfold T8__law_case
  simp [-pyE, -pyEs]
  refine ⟨p, by simpa using hp, fp, own_ok h1 h.m6 h.sl h8 h12 ?_⟩
  rw [coverD_eq, ← ec]
  refine ⟨p, hp, fp, .inl ⟨rfl, ?_⟩⟩
  have e1 := @web_map_ok gm 0
  rw [ec] at hp ⊢
  refine web_map_ok cov h.n1 h.n8 hN1 h8 h.t12 zl h.ok okz (.inl ⟨rfl, ?_⟩)
  refine cover_is_ok cov lft h.n1 h.n8 hN1 h8 h.t12 zl h.ok okz (.inl ⟨rfl, ?_⟩)
  rw [← ec]
  refine ⟨_, atI0, _, atI1, lots_ok h.n8 h.t12 h.ok fun r hr => ?_⟩
  show if 1 < r then _ else _
  have cm : ((n : Int) * m) = ((n * m : Nat) : Int) := by push_cast; rfl
  rw [cm]
  split
  · rename_i hr1
    refine ⟨_, atI0, _, atI1, lots_ok h8 cl okc fun r2 hr2 => ?_⟩
    have := lots_up h1 hr hr2 hr1
    show R (.bl (decide (1 < r2))) c
    rw [decide_eq_true this]
    exact hR
  · rename_i hr1
    refine ⟨_, atI0, _, atI1, lots_ok h8 cl okc fun r2 hr2 => ?_⟩
    refine rounds_ok h.n1 h.n8 h1 h.m6 h.t12 h.sl h.sm h.ok (fun v hv => lots_one h.n1 hr hr1 v hv) fun g hg => ?_
    have := lots_rounds h.n1 h1 h.ok hr2 hg
    subst this
    show R (.bl (decide ((g : Int) = g))) c
    rw [decide_eq_true rfl]
    exact hR
theorem Ctx.web {n m : Nat} {ts : List Tie} {ss : List Nat} {hd row : D} (h : Ctx n m ts ss hd row) : isWeb (tups hd) = true := by
  rw [h.eh]
  exact isWeb_web h.n1 h.n8 h.t12 h.ok
theorem t7_ok {n m : Nat} {ts : List Tie} {ss : List Nat} {hd row : D} {x4 x7 x8 : Slot} (h : Ctx n m ts ss hd row) (h8 : n * m ≤ 8) (h12 : ts.length * m ≤ 12) (hR : R (.bl true) c) :
    T7__law_case gm RX (st7 n m ts ss x4 hd row x7 x8 c) (En R) := by
  unfold T7__law_case
  simp
  refine cover_ok h.dh h.dr h.m1 h.m6 h.eh h.web h.er h.sl h.sm h8 h12 ?_
  rw [coverD_eq, cvZ_fst]
  simp
  exact t8_ok h h8 h12 hR
theorem sw_many : Sw 0 100 (.str "many") := sw_str (by decide) (by decide)
theorem t6_ok {n m : Nat} {ts : List Tie} {ss : List Nat} {hd row : D} {x4 x7 x8 : Slot} (h : Ctx n m ts ss hd row) (h8 : n * m ≤ 8) (hR : R (.bl true) c) :
    T6__law_case gm RX (st7 n m ts ss x4 hd row x7 x8 c) (En R) := by
  have hm1 := h.m1
  have hm6 := h.m6
  have ht := h.t12
  have c1 : ∀ i : Int, L2.CMul i m := fun i => .inr ⟨by omega, by omega⟩
  have b : ts.length * m ≤ 12 * 6 := Nat.mul_le_mul ht hm6
  have cm : ((ts.length : Int) * m) = ((ts.length * m : Nat) : Int) := by push_cast; rfl
  unfold T6__law_case
  simp [-pyE, -pyEs, c1, atI1]
  rw [cm]
  split
  · rename_i g
    obtain ⟨p, hp, fp⟩ := fit_many (x := "many") (y := "ties") (a := (ts.length * m : Nat)) (b := 12) sw_many (sw_str (by decide) (by decide)) (by omega) (by omega)
    refine ⟨[hd, .int m, row], rfl, by simp [h.fh, h.fr], rfl, ?_⟩
    refine cover_ties (n := n) (ts := tsD ts) h.dh h.dr (by omega) (by omega) h.eh h.web ?_ ?_ ?_ ?_
    · rw [h.er, List.length_map]
      exact isShifts_ns h.sl h.sm
    · have : ((n : Int) * m) = ((n * m : Nat) : Int) := by push_cast; rfl
      omega
    · rw [List.length_map]
      omega
    · rw [List.length_map, cm]
      refine ⟨"many", by simp [tags], rfl, p, hp, fp, p, hp, fp, ?_⟩
      rw [decide_eq_true rfl]
      exact hR
  · rename_i g
    exact t7_ok h h8 (by omega) hR
theorem t5_ok {n m : Nat} {ts : List Tie} {ss : List Nat} {hd row : D} {x4 x7 x8 : Slot} (h : Ctx n m ts ss hd row) (hR : R (.bl true) c) :
    T5__law_case gm RX (st7 n m ts ss x4 hd row x7 x8 c) (En R) := by
  have hm1 := h.m1
  have hm6 := h.m6
  have hn := h.n8
  have c1 : ∀ i : Int, L2.CMul i m := fun i => .inr ⟨by omega, by omega⟩
  have b : n * m ≤ 8 * 6 := Nat.mul_le_mul hn hm6
  have cm : ((n : Int) * m) = ((n * m : Nat) : Int) := by push_cast; rfl
  unfold T5__law_case
  simp [-pyE, -pyEs, c1, atI0]
  rw [cm]
  split
  · rename_i g
    obtain ⟨p, hp, fp⟩ := fit_many (x := "many") (y := "places") (a := (n * m : Nat)) (b := 8) sw_many (sw_str (by decide) (by decide)) (by omega) (by omega)
    refine ⟨[hd, .int m, row], rfl, by simp [h.fh, h.fr], rfl, ?_⟩
    refine cover_places (n := n) (ts := tsD ts) h.dh h.dr (by omega) (by omega) h.eh h.web ?_ ?_ ?_
    · rw [h.er, List.length_map]
      exact isShifts_ns h.sl h.sm
    · omega
    · rw [cm]
      refine ⟨"many", by simp [tags], rfl, p, hp, fp, p, hp, fp, ?_⟩
      rw [decide_eq_true rfl]
      exact hR
  · rename_i g
    exact t6_ok h (by omega) hR
@[simp] def prL (p : Tie) : D := .lst [.int p.1, .int p.2]
abbrev webL (n : Nat) (ts : List Tie) : D := .lst [.int n, .lst (ts.map prL)]
theorem tupsL_prL : ∀ l : List Tie, tupsL (l.map prL) = tsD l
  | [] => rfl
  | x :: l => congrArg (prD x :: ·) (tupsL_prL l)
theorem depL_prL (n : Nat) : ∀ l : List Tie, depL (n + 2) (l.map prL) = true
  | [] => rfl
  | x :: l => depL_prL n l
theorem dep_webL (k n : Nat) {ts : List Tie} (h : ts.length ≤ 1000) : dep (k + 4) (webL n ts) = true := by
  have h' : decide ((ts.map prL).length ≤ 1000) = true := by simpa using h
  have e : dep (k + 3) (.lst (ts.map prL)) = (decide ((ts.map prL).length ≤ 1000) && depL (k + 2) (ts.map prL)) := rfl
  show (true && (true && (dep (k + 3) (.lst (ts.map prL)) && true))) = true
  rw [e, depL_prL, h']
  rfl
theorem flats_ts : ∀ l : List Tie, flats (tsD l) = true
  | [] => rfl
  | x :: l => flats_ts l
theorem flats_prL : ∀ l : List Tie, flats (l.map prL) = true
  | [] => rfl
  | x :: l => flats_prL l
theorem flats_ns : ∀ l : List Nat, flats (nsD l) = true
  | [] => rfl
  | x :: l => flats_ns l
theorem dep_row (k : Nat) {ss : List Nat} (h : ss.length ≤ 1000) : dep (k + 2) (.tup (nsD ss)) = true ∧ dep (k + 2) (.lst (nsD ss)) = true := by
  have h' : decide ((nsD ss).length ≤ 1000) = true := by simpa using h
  have e : (decide ((nsD ss).length ≤ 1000) && depL (k + 1) (nsD ss)) = true := by rw [depL_ints, h']; rfl
  exact ⟨e, e⟩
theorem t4_ok {n m : Nat} {ts : List Tie} {ss : List Nat} {x4 x5 x6 x7 x8 : Slot} (n1 : 1 ≤ n) (n8 : n ≤ 8) (m1 : 1 ≤ m) (m6 : m ≤ 6) (t12 : ts.length ≤ 12) (ok : ∀ p ∈ ts, OkT n p) (sl : ss.length = ts.length) (sm : ∀ s ∈ ss, s < m) (hx4 : x4 = .no ∨ ∃ d, x4 = .d d) (c0 : 0 ≤ c) (c1 : c < 300000000000) (hR : R (.bl true) (c + 1 + 1)) :
    T4__law_case gm RX ⟨[.pen, .d (.int m), .d (webD n ts), .d (.tup (nsD ss)), x4, x5, x6, x7, x8], c⟩ (En R) := by
  unfold T4__law_case
  simp [atI0, atI1]
  refine ⟨?_, ?_⟩
  · rcases hx4 with rfl | ⟨d, rfl⟩ <;> rfl
  refine lc_map (fun d => match d with
    | .tup ds => .lst ds
    | d => d) (by simp) (by simp; omega) (fun d hd Q hQ => ?_) ?_
  · simp at hd
    obtain ⟨a, b, _, rfl⟩ := hd
    simpa using hQ
  have e : (tsD ts).map (fun d => match d with
    | .tup ds => D.lst ds
    | d => d) = ts.map prL := by simp [List.map_map, Function.comp_def]
  rw [e]
  refine pick (c := c) (by simp) (by simp) c0 (by omega) fun hd hhd => ?_
  simp
  refine pick (c := c + 1) (by simp) (by simp) (by omega) (by omega) fun row hrow => ?_
  simp at hhd hrow ⊢
  have d1 := dep_row 10 (ss := ss) (by omega)
  refine t5_ok (ss := ss) ⟨n1, n8, m1, m6, t12, ok, sl, sm, ?_, ?_, ?_, ?_, ?_, ?_⟩ hR
  · rcases hhd with rfl | rfl
    · exact dep_web 8 n (by omega)
    · exact dep_webL 8 n (by omega)
  · rcases hhd with rfl | rfl
    · exact tups_web n ts
    · show D.tup [.int n, .tup (tupsL (ts.map prL))] = _
      rw [tupsL_prL]
  · rcases hrow with rfl | rfl
    · exact d1.1
    · exact d1.2
  · rcases hrow with rfl | rfl
    · show D.tup (tupsL (nsD ss)) = _
      rw [tupsL_ints]
    · show D.tup (tupsL (nsD ss)) = _
      rw [tupsL_ints]
  · rcases hhd with rfl | rfl
    · simp [flats_ts]
    · simpa using flats_prL ts
  · rcases hrow with rfl | rfl
    · simpa using flats_ns ss
    · simpa using flats_ns ss
theorem t3_ok {n m : Nat} {ts : List Tie} {x5 x6 x7 x8 : Slot} (n1 : 1 ≤ n) (n8 : n ≤ 8) (m1 : 1 ≤ m) (m6 : m ≤ 6) (t12 : ts.length ≤ 12) (ok : ∀ p ∈ ts, OkT n p) (c0 : 0 ≤ c) (c1 : c < 290000000000) (hR : ∀ c', c ≤ c' → c' ≤ c + 100 → R (.bl true) c') :
    T3__law_case gm RX ⟨[.pen, .d (.int m), .d (webD n ts), .no, .no, x5, x6, x7, x8], c⟩ (En R) := by
  unfold T3__law_case
  simp [atI0, atI1]
  refine lc_ind (fun acc l c' => ∃ ss : List Nat, acc = nsD ss ∧ (∀ s ∈ ss, s < m) ∧ ss.length + l.length = ts.length ∧ c' = c + ss.length) ?_ ?_ _ _ _ ⟨[], rfl, by simp, by simp, by simp⟩
  · rintro acc c' ⟨ss, rfl, sm, hl, rfl⟩
    simp at hl ⊢
    exact t4_ok (c := c + ss.length) n1 n8 m1 m6 t12 ok hl sm (.inl rfl) (by omega) (by omega) (hR _ (by omega) (by omega))
  · rintro acc x xs c' K ⟨ss, rfl, sm, hl, rfl⟩ hK
    simp at hl
    simp
    refine draw (by omega) (by omega) (by omega) (by omega) fun r r0 r1 => ?_
    obtain ⟨k, rfl⟩ := Int.eq_ofNat_of_zero_le r0
    refine ⟨by omega, hK _ _ ⟨ss ++ [k], by simp, ?_, by simp; omega, by simp; omega⟩⟩
    intro s hs
    rcases List.mem_append.mp hs with z | z
    · exact sm s z
    · simp at z
      omega
theorem case_ok (c0 : 0 ≤ c) (c1 : c < 200000000000) (h : ∀ c', c ≤ c' → c' ≤ c + 1000 → R (.bl true) c') : Ψ__law_case gm [] c R RX := by
  rw [cut__law_case]
  refine ⟨rfl, ?_⟩
  simp
  refine draw (by omega) (by omega) c0 (by omega) fun r r0 r1 => ?_
  obtain ⟨m', rfl⟩ := Int.eq_ofNat_of_zero_le r0
  simp
  have em : (1 : Int) + m' = ((m' + 1 : Nat) : Int) := by omega
  rw [em]
  generalize hm : m' + 1 = m at *
  have m1 : 1 ≤ m := by omega
  have m6 : m ≤ 6 := by omega
  have e8 : (8 : Int) / m = ((8 / m : Nat) : Int) := (Int.natCast_ediv 8 m).symm
  have e12 : (12 : Int) / m = ((12 / m : Nat) : Int) := (Int.natCast_ediv 12 m).symm
  have b8 : 8 / m ≤ 8 := Nat.div_le_self _ _
  have b12 : 12 / m ≤ 12 := Nat.div_le_self _ _
  have eM : (if (1 : Int) < 8 / m then (8 : Int) / m else 1) = ((max 1 (8 / m) : Nat) : Int) := by
    rw [e8]
    split <;> omega
  unfold T1__law_case
  simp
  refine ⟨⟨by omega, by omega⟩, ⟨by omega, by omega⟩, ?_⟩
  rw [eM, e12]
  refine plain_web (c := c + 1) (by omega) (by omega) b12 (by omega) (by omega) fun n ts c' n1 n2 t1 ok h1 h2 => ?_
  unfold T2__law_case
  simp
  refine draw (c := c') (by omega) (by omega) (by omega) (by omega) fun r r0 r1 => ?_
  simp
  split
  · refine plain_web (c := c' + 1) (most := 8) (ties := 12) (by omega) (by omega) (by omega) (by omega) (by omega) fun n ts c'' n1 n2 t1 ok h3 h4 => ?_
    exact t3_ok (c := c'') n1 n2 m1 m6 t1 ok (by omega) (by omega) fun c3 a b => h c3 (by omega) (by omega)
  · exact t3_ok (c := c' + 1) n1 (by omega) m1 m6 (by omega) ok (by omega) (by omega) fun c3 a b => h c3 (by omega) (by omega)
end K78
namespace K78
open PySem PySem.Spec PyProof.Rows L2 DL
def Λ1 (gm : Gm) : DFn := fun env c R RX => env.length = 3 ∧ (dCall (Ψ_cover_by gm) RX (aCons (dVar 0) (aCons (dVar 1) (aCons (dVar 2) aNil)))) ⟨env.map .d, c⟩ fun d s => R d s.c
def Λ2 (gm : Gm) : DFn := fun env c R RX => env.length = 3 ∧ (dCall (Ψ_cover_by gm) RX (aCons (dVar 2) (aCons (dVar 0) (aCons (dVar 1) aNil)))) ⟨env.map .d, c⟩ fun d s => R d s.c
def Λ3 (gm : Gm) : DFn := fun env c R RX => env.length = 2 ∧ (dCall (Ψ_cover_by gm) RX (aCons (dVar 1) (aCons (dC (.int 2)) (aCons (dVar 0) aNil)))) ⟨env.map .d, c⟩ fun d s => R d s.c
def Λ4 (gm : Gm) : DFn := fun env c R RX => env.length = 0 ∧ (dCall (Ψ_cover_by gm) RX (aCons (dTup (aCons (dC (.int 5)) (aCons (dTup aNil) aNil))) (aCons (dC (.int 2)) (aCons (dTup aNil) aNil)))) ⟨env.map .d, c⟩ fun d s => R d s.c
def Λ5 (gm : Gm) : DFn := fun env c R RX => env.length = 0 ∧ (dCall (Ψ_cover_by gm) RX (aCons (dTup (aCons (dC (.int 2)) (aCons (dOp oMulX (dTup (aCons (dTup (aCons (dC (.int 0)) (aCons (dC (.int 1)) aNil))) aNil)) (dC (.int 5))) aNil))) (aCons (dC (.int 3)) (aCons (dOp oMulX (dTup (aCons (dC (.int 0)) aNil)) (dC (.int 5))) aNil)))) ⟨env.map .d, c⟩ fun d s => R d s.c
def Ψ_law (gm : Gm) (cells : List (Str × Addr)) (d1 : Clo.CloD) (d2 : Clo.CloD) (d3 : Clo.CloD) (d4 : Clo.CloD) (d5 : Clo.CloD) (RX : DX → Int → Prop) : DS := dSeq (dIfS (tNotD (tBool (dCB cAll (aCons (dFz (dLc [2] (dRng (aCons (dC (.int 6)) aNil)) (fun d s R => R (s.set 2 (.d d))) dYes (dCallP 1 (Ψ__law_case gm) (fun _ _ => False) aNil))) aNil)))) (dRet (dC (.bl false))) (dNext)) (dSeq (dSet 3 (dCallP 1 (Ψ__law_pick gm) (fun _ _ => False) (aCons (dFz (lLst (aCons (dC .non) (aCons (dC (.int 5)) (aCons (dTup (aCons (dC (.int 0)) (aCons (dTup aNil) aNil))) (aCons (dTup (aCons (dC (.int 9)) (aCons (dTup aNil) aNil))) (aCons (dTup (aCons (dC (.int 2)) (aCons (dTup (aCons (dTup (aCons (dC (.int 0)) (aCons (dC (.int 0)) aNil))) aNil)) aNil))) (aCons (dTup (aCons (dC (.int 2)) aNil)) (aCons (dTup (aCons (dC (.bl true)) (aCons (dTup aNil) aNil))) aNil))))))))) aNil))) (dSeq (dAsg (dTup (aCons (dCallP 1 (Ψ__law_no_number gm) (fun _ _ => False) (aCons (dC (.int 1)) (aCons (dC (.int 6)) aNil))) (aCons (dTup (aCons (dC (.int 2)) (aCons (dTup (aCons (dTup (aCons (dC (.int 0)) (aCons (dC (.int 1)) aNil))) aNil)) aNil))) aNil))) (gTp 2 (gsC (fun d s R => R (s.set 4 (.d d))) (gsC (fun d s R => R (s.set 5 (.d d))) gsN)))) (dSeq (dSet 6 (dCallP 1 (Ψ__law_pick gm) (fun _ _ => False) (aCons (dFz (lLst (aCons (dC .non) (aCons (dC (.int 5)) (aCons (dTup aNil) (aCons (dTup (aCons (dC (.int 2)) aNil)) (aCons (dTup (aCons (dNeg (dC (.int 1))) aNil)) (aCons (dTup (aCons (dC (.int 0)) (aCons (dC (.int 0)) aNil))) (aCons (dTup (aCons (dC (.bl true)) aNil)) (aCons (dTup (aCons (dC (.str "0")) aNil)) (aCons (dC (.str "0")) aNil))))))))))) aNil))) (dSeq (dOwn 7 (lLst (aCons (dTup (aCons (dC (.clo d1)) (aCons (dTup (aCons (dC (.str "web")) (aCons (dC (.str "web")) (aCons (dVar 3) aNil)))) aNil))) aNil))) (dSeq (dAppend 7 (dTup (aCons (dC (.clo d2)) (aCons (dTup (aCons (dC (.str "number")) (aCons (dC (.str "m")) (aCons (dVar 4) aNil)))) aNil)))) (dSeq (dAppend 7 (dTup (aCons (dC (.clo d3)) (aCons (dTup (aCons (dC (.str "row")) (aCons (dVar 6) aNil))) aNil)))) (dSeq (dAppend 7 (dTup (aCons (dC (.clo d4)) (aCons (dTup (aCons (dC (.str "many")) (aCons (dC (.str "places")) (aCons (dC (.int 10)) (aCons (dC (.int 8)) aNil))))) aNil)))) (dSeq (dAppend 7 (dTup (aCons (dC (.clo d5)) (aCons (dTup (aCons (dC (.str "many")) (aCons (dC (.str "ties")) (aCons (dC (.int 15)) (aCons (dC (.int 12)) aNil))))) aNil)))) (dFrz 7 (dRet (dCallS cells ["bad", "few", "row", "web"] ["script", "pen", "lap", "bad", "few", "web", "row", "tries"] (Ψ__law_are_due gm) (fun _ _ => False) (aCons (dVar 7) aNil))))))))))))
/-- the law, behind its pen -/
def LawPure (gm : Gm) : Prop := ∀ (cells : List (Str × Addr)) (d1 : Clo.CloD) (d2 : Clo.CloD) (d3 : Clo.CloD) (d4 : Clo.CloD) (d5 : Clo.CloD) (s1 : ∀ (sl : List DL.Slot) (env : List D), [slotOf ["script", "pen", "lap", "bad", "few", "web", "row", "tries"] sl "bad", slotOf ["script", "pen", "lap", "bad", "few", "web", "row", "tries"] sl "few", slotOf ["script", "pen", "lap", "bad", "few", "web", "row", "tries"] sl "row"] = env.map some → flats env = true → Seal cells ["bad", "few", "row", "web"] ["script", "pen", "lap", "bad", "few", "web", "row", "tries"] sl (.clo d1) (.sc d1 env)) (g1 : gm.clo d1 (Λ1 gm)) (s2 : ∀ (sl : List DL.Slot) (env : List D), [slotOf ["script", "pen", "lap", "bad", "few", "web", "row", "tries"] sl "few", slotOf ["script", "pen", "lap", "bad", "few", "web", "row", "tries"] sl "row", slotOf ["script", "pen", "lap", "bad", "few", "web", "row", "tries"] sl "web"] = env.map some → flats env = true → Seal cells ["bad", "few", "row", "web"] ["script", "pen", "lap", "bad", "few", "web", "row", "tries"] sl (.clo d2) (.sc d2 env)) (g2 : gm.clo d2 (Λ2 gm)) (s3 : ∀ (sl : List DL.Slot) (env : List D), [slotOf ["script", "pen", "lap", "bad", "few", "web", "row", "tries"] sl "row", slotOf ["script", "pen", "lap", "bad", "few", "web", "row", "tries"] sl "web"] = env.map some → flats env = true → Seal cells ["bad", "few", "row", "web"] ["script", "pen", "lap", "bad", "few", "web", "row", "tries"] sl (.clo d3) (.sc d3 env)) (g3 : gm.clo d3 (Λ3 gm)) (s4 : ∀ (sl : List DL.Slot) (env : List D), [] = env.map some → flats env = true → Seal cells ["bad", "few", "row", "web"] ["script", "pen", "lap", "bad", "few", "web", "row", "tries"] sl (.clo d4) (.sc d4 env)) (g4 : gm.clo d4 (Λ4 gm)) (s5 : ∀ (sl : List DL.Slot) (env : List D), [] = env.map some → flats env = true → Seal cells ["bad", "few", "row", "web"] ["script", "pen", "lap", "bad", "few", "web", "row", "tries"] sl (.clo d5) (.sc d5 env)) (g5 : gm.clo d5 (Λ5 gm)) (R : D → Prop), R (.bl true) → Ψ_law gm cells d1 d2 d3 d4 d5 (fun _ _ => False) ⟨.no :: .pen :: List.replicate 6 .no, 0⟩ { nx := fun _ => R .non, rt := fun d _ => R d }
theorem pss_any {X : Cx} {st : List Stmt} : PSs X st (fun D σ H => ∃ t, PSs X st t ∧ t D σ H) := ⟨fun pins s σ H D I h => by
  obtain ⟨t, p, h⟩ := h
  exact p.run pins s σ H D I h⟩
def spLaw (K : PySem.W.Frag) (T : List (Addr × Str)) : Sp := fun vs H Q _ => ∃ (a : Addr) (ns : List Int), vs = [.ref a] ∧ SqL K H a (ns.map V.int) ∧ ns.length ≤ 63 ∧ TabG T (fun _ => none) H ∧ ∀ H', Q (.bl true) H'
section
variable {P : Program} {w : World} {K : PySem.W.Frag} {mg : Str → Option Value} {base : Heap} {f : Addr} {fd : FuncData} {T : List (Addr × Str)} {gm : Gm}
theorem sc_law : FnScope ["script", "pen", "lap", "bad", "few", "web", "row", "tries"] ["script"] (defScope (top 47)) := ⟨rfl, rfl, rfl, by decide +kernel, rfl, by decide +kernel, by decide +kernel⟩
theorem ok_law (B : Bs mg) (Sy : Sys K) (Fd : FnP K "law" (top 47) f fd) (h_pen : ∃ g gd, FnP K "_law_pen" sPen g gd ∧ mg "_law_pen" = some (.ref g)) (h__law_case : Ok__law_case P w K mg base T gm) (h__law_pick : Ok__law_pick P w K mg base T gm) (h__law_no_number : Ok__law_no_number P w K mg base T gm) (h_cover_by : Ok_cover_by P w K mg base T gm) (h__law_are_due : Ok__law_are_due P w K mg base T gm) (hl : ∃ c Pt, fd.code = .ref c ∧ LamX.TabB base mg c Pt ∧ (Pt, ("law.<locals>.<lambda>" : Str)) ∈ T ∧ ∀ p ∈ T, p.1 = Pt → p.2 = ("law.<locals>.<lambda>" : Str)) (hclo : ∀ d Ψ, DL.CloD P w K mg base 39 d Ψ → gm.clo d Ψ) (hpure : LawPure gm) : Gd.FnG P w K mg base (L2.CX P w) 45 f fd ["script"] (spLaw K T) := by
  obtain ⟨gP, gdP, FP, GP⟩ := h_pen
  obtain ⟨f__law_case, fd__law_case, O__law_case, F__law_case, G__law_case⟩ := h__law_case
  obtain ⟨f__law_pick, fd__law_pick, O__law_pick, F__law_pick, G__law_pick⟩ := h__law_pick
  obtain ⟨f__law_no_number, fd__law_no_number, O__law_no_number, F__law_no_number, G__law_no_number⟩ := h__law_no_number
  obtain ⟨f_cover_by, fd_cover_by, O_cover_by, F_cover_by, G_cover_by⟩ := h_cover_by
  obtain ⟨f__law_are_due, fd__law_are_due, O__law_are_due, F__law_are_due, G__law_are_due⟩ := h__law_are_due
  obtain ⟨c0, Pt, hcode, TB, hmT0, hu0⟩ := hl
  have S := sc_law
  refine fnG_ofC Fd S (fun vs H Q E h => ?_) (fun A outer s H vs Q E hr hG h => ?_)
  · obtain ⟨a, ns, rfl, _⟩ := h
    rfl
  obtain ⟨a, ns, rfl, ha, hn, hT, hq⟩ := h
  refine ⟨_, C8.pss_cut (ps_set (i := 1) S.nd rfl (by first | exact .inl rfl | exact .inr rfl) (pe_call (ok_pen B FP) (hr.mono (by decide)) (by rfl) GP FP.kp (FP.bindsN fun _ _ _ _ _ _ us hl => match us, hl with | [_], _ => rfl) .nil ((bodyF P w K mg base 44 ["script", "pen", "lap", "bad", "few", "web", "row", "tries"] "law" (defScope (top 47)) f fd.code A outer s H E hr hG).hx ()) (pa_cons (pv 0) pa_nil))) pss_any, ?_⟩
  refine ⟨fun σ H1 => ∃ p L, σ = (L2.start ["script", "pen", "lap", "bad", "few", "web", "row", "tries"] [.ref a]).set 1 (some (.ref p)) ∧ PenAt H1 p L 0 ∧ Ex H H1, ?_, ?_⟩
  · exact ⟨_, rfl, a, ns, rfl, ha, hn, fun p L H' _ hx hp => ⟨p, L, rfl, hp, hx⟩⟩
  rintro σ H1 ⟨p, L, rfl, hp, hx⟩
  have tab0 : TabOk ⟨some (p, L), fun _ => none, H1, T⟩ (fun _ => none) H1 := ⟨tabs_keep hT (fun b ps e => hx _ _ e) (Ex.rf _), fun _ _ => rfl⟩
  obtain ⟨M, rfl⟩ : ∃ M : Cm, M = ⟨some (p, L), fun _ => none, H1, T⟩ := ⟨_, rfl⟩
  have ht : (⟨some (p, L), fun _ => none, H1, T⟩ : Cm).tabs = T := rfl
  have ni : Nice ⟨some (p, L), fun _ => none, H1, T⟩ := ⟨fun b o e => (by cases e), fun _ _ _ => rfl, fun _ _ => rfl⟩
  have hmT := hmT0
  have hu := hu0
  rw [← ht] at hmT hu
  have key : ∃ ψ, SDs ⟨some (p, L), fun _ => none, H1, T⟩ (bodyF P w K mg base 44 ["script", "pen", "lap", "bad", "few", "web", "row", "tries"] "law" (defScope (top 47)) f fd.code A outer s H E hr hG) ((defBody (top 47)).drop 1) ψ ∧ ψ ⟨.no :: .pen :: List.replicate 6 .no, 0⟩ { nx := fun _ => ∀ H', Q .non H', rt := fun d _ => ∀ v G' H', Vd G' v d → Q v H' } := by
    refine ⟨Ψ_law gm _ _ _ _ _ _ (fun _ _ => False), s_cons (s_if (t_not (t_val (e_all B.all (a_cons (e_fz (l_lc (own := [("lap", 2)]) (fun _ => blkOk_by (own := [("lap", 2)]) (N := ["script", "pen", "lap", "bad", "few", "web", "row", "tries"]) (sc := defScope (top 47)) (by decide +kernel)) (fun _ => S.nd) (id_rng (a_cons (e_int) a_nil) (fun _ => rfl) B.range) (g_name 2 (fun _ => pg_name (i := 2) S.nd rfl (by first | exact .inl rfl | exact .inr rfl))) ts_nil (e_callP (RX := (fun _ _ => False)) 1 O__law_case (by decide) G__law_case F__law_case.kp (F__law_case.bindsN fun _ _ _ _ _ _ us hl => match us, hl with | [_], _ => rfl) (fun _ _ _ _ _ _ z => z.elim) ni ht (fun _ => pv 1) a_nil (fun _ => rfl)))) a_nil) (fun _ => rfl)))) (s_one (s_ret (e_bl))) (s_nil)) (s_cons (s_setR (fun t h j => ps_set (i := 3) S.nd rfl (by first | exact .inl rfl | exact .inr rfl) (h j)) (e_callP (RX := (fun _ _ => False)) 1 O__law_pick (by decide) G__law_pick F__law_pick.kp (F__law_pick.bindsN fun _ _ _ _ _ _ us hl => match us, hl with | [_, _], _ => rfl) (fun _ _ _ _ _ _ z => z.elim) ni ht (fun _ => pv 1) (a_cons (e_fz (l_lst (a_cons (e_non) (a_cons (e_int) (a_cons (e_tup (a_cons (e_int) (a_cons (e_tup a_nil) a_nil))) (a_cons (e_tup (a_cons (e_int) (a_cons (e_tup a_nil) a_nil))) (a_cons (e_tup (a_cons (e_int) (a_cons (e_tup (a_cons (e_tup (a_cons (e_int) (a_cons (e_int) a_nil))) a_nil)) a_nil))) (a_cons (e_tup (a_cons (e_int) a_nil)) (a_cons (e_tup (a_cons (e_bl) (a_cons (e_tup a_nil) a_nil))) a_nil))))))))) a_nil) (fun _ => rfl))) (s_cons (s_asg (e_tup (a_cons (e_callP (RX := (fun _ _ => False)) 1 O__law_no_number (by decide) G__law_no_number F__law_no_number.kp (F__law_no_number.bindsN fun _ _ _ _ _ _ us hl => match us, hl with | [_, _, _], _ => rfl) (fun _ _ _ _ _ _ z => z.elim) ni ht (fun _ => pv 1) (a_cons (e_int) (a_cons (e_int) a_nil)) (fun _ => rfl)) (a_cons (e_tup (a_cons (e_int) (a_cons (e_tup (a_cons (e_tup (a_cons (e_int) (a_cons (e_int) a_nil))) a_nil)) a_nil))) a_nil))) (g_tup 2 (gs_cons (g_name 4 (fun _ => pg_name (i := 4) S.nd rfl (by first | exact .inl rfl | exact .inr rfl))) (gs_cons (g_name 5 (fun _ => pg_name (i := 5) S.nd rfl (by first | exact .inl rfl | exact .inr rfl))) gs_nil)))) (s_cons (s_setR (fun t h j => ps_set (i := 6) S.nd rfl (by first | exact .inl rfl | exact .inr rfl) (h j)) (e_callP (RX := (fun _ _ => False)) 1 O__law_pick (by decide) G__law_pick F__law_pick.kp (F__law_pick.bindsN fun _ _ _ _ _ _ us hl => match us, hl with | [_, _], _ => rfl) (fun _ _ _ _ _ _ z => z.elim) ni ht (fun _ => pv 1) (a_cons (e_fz (l_lst (a_cons (e_non) (a_cons (e_int) (a_cons (e_tup a_nil) (a_cons (e_tup (a_cons (e_int) a_nil)) (a_cons (e_tup (a_cons (e_neg (e_int)) a_nil)) (a_cons (e_tup (a_cons (e_int) (a_cons (e_int) a_nil))) (a_cons (e_tup (a_cons (e_bl) a_nil)) (a_cons (e_tup (a_cons (e_str) a_nil)) (a_cons (e_str) a_nil))))))))))) a_nil) (fun _ => rfl))) (s_cons (s_ownR (fun t h j => ps_set (i := 7) S.nd rfl (by first | exact .inl rfl | exact .inr rfl) (h j)) (l_lst (a_cons (e_tup (a_cons (e_lam (q := "law.<locals>.<lambda>") TB hmT hu (fun _ => hcode) (fun _ => rfl) (fun _ => rfl) (cap_has (fsc := (defScope (top 47))) rfl)) (a_cons (e_tup (a_cons (e_str) (a_cons (e_str) (a_cons (e_var 3 (fun _ => pv 3)) a_nil)))) a_nil))) a_nil))) (s_cons (s_append 7 (fun _ => pv 7) (e_tup (a_cons (e_lam (q := "law.<locals>.<lambda>") TB hmT hu (fun _ => hcode) (fun _ => rfl) (fun _ => rfl) (cap_has (fsc := (defScope (top 47))) rfl)) (a_cons (e_tup (a_cons (e_str) (a_cons (e_str) (a_cons (e_var 4 (fun _ => pv 4)) a_nil)))) a_nil)))) (s_cons (s_append 7 (fun _ => pv 7) (e_tup (a_cons (e_lam (q := "law.<locals>.<lambda>") TB hmT hu (fun _ => hcode) (fun _ => rfl) (fun _ => rfl) (cap_has (fsc := (defScope (top 47))) rfl)) (a_cons (e_tup (a_cons (e_str) (a_cons (e_var 6 (fun _ => pv 6)) a_nil))) a_nil)))) (s_cons (s_append 7 (fun _ => pv 7) (e_tup (a_cons (e_lam (q := "law.<locals>.<lambda>") TB hmT hu (fun _ => hcode) (fun _ => rfl) (fun _ => rfl) (cap_has (fsc := (defScope (top 47))) rfl)) (a_cons (e_tup (a_cons (e_str) (a_cons (e_str) (a_cons (e_int) (a_cons (e_int) a_nil))))) a_nil)))) (s_cons (s_append 7 (fun _ => pv 7) (e_tup (a_cons (e_lam (q := "law.<locals>.<lambda>") TB hmT hu (fun _ => hcode) (fun _ => rfl) (fun _ => rfl) (cap_has (fsc := (defScope (top 47))) rfl)) (a_cons (e_tup (a_cons (e_str) (a_cons (e_str) (a_cons (e_int) (a_cons (e_int) a_nil))))) a_nil)))) (s_frz 7 (s_one (s_ret (e_callS (RX := (fun _ _ => False)) (ns := ["bad", "few", "row", "web"]) (N := ["script", "pen", "lap", "bad", "few", "web", "row", "tries"]) O__law_are_due (by decide) G__law_are_due F__law_are_due.kp (F__law_are_due.bindsN fun _ _ _ _ _ _ us hl => match us, hl with | [_], _ => rfl) (fun _ _ _ _ _ _ z => z.elim) ni (fun _ => rfl) (fun _ => rfl) S.nd (fun _ y hy => of_decide_eq_true (List.all_eq_true.mp (show (["bad", "few", "row", "web"] : List Str).all (fun y => decide ((defScope (top 47)).names.lookup y = some .cell)) = true from rfl) y hy)) (fun _ => rfl) (fun y hy => cell_has (of_decide_eq_true (List.all_eq_true.mp (show (["bad", "few", "row", "web"] : List Str).all (fun y => decide ((defScope (top 47)).names.lookup y = some .cell)) = true from rfl) y hy))) (a_cons (e_var 7 (fun _ => pv 7)) a_nil) (fun _ => rfl))))))))))))), ?_⟩
    refine hpure _ _ _ _ _ _ ?_ ?_ ?_ ?_ ?_ ?_ ?_ ?_ ?_ ?_ _ fun v G' H' hv => (by cases hv; exact hq H')
    · exact fun sl env he hf => .clo rfl he hf
    · exact hclo _ _ (cloD_of (Ψ := Λ1 gm) (closS_body (fsc := defScope (top 47)) rfl rfl) rfl (fun _ _ _ => rfl) fun A2 outer2 s2 H2 f2 c2 E2 hr2 hG2 M2 RX2 ni2 hE2 => ⟨_, e_call (RX := RX2) O_cover_by (by decide) G_cover_by F_cover_by.kp (F_cover_by.bindsN fun _ _ _ _ _ _ us hl => match us, hl with | [_, _, _], _ => rfl) hE2 ni2 (a_cons (e_var 0 (fun _ => pv 0)) (a_cons (e_var 1 (fun _ => pv 1)) (a_cons (e_var 2 (fun _ => pv 2)) a_nil))) (fun _ => rfl), fun env c R h => h.2⟩)
    · exact fun sl env he hf => .clo rfl he hf
    · exact hclo _ _ (cloD_of (Ψ := Λ2 gm) (closS_body (fsc := defScope (top 47)) rfl rfl) rfl (fun _ _ _ => rfl) fun A2 outer2 s2 H2 f2 c2 E2 hr2 hG2 M2 RX2 ni2 hE2 => ⟨_, e_call (RX := RX2) O_cover_by (by decide) G_cover_by F_cover_by.kp (F_cover_by.bindsN fun _ _ _ _ _ _ us hl => match us, hl with | [_, _, _], _ => rfl) hE2 ni2 (a_cons (e_var 2 (fun _ => pv 2)) (a_cons (e_var 0 (fun _ => pv 0)) (a_cons (e_var 1 (fun _ => pv 1)) a_nil))) (fun _ => rfl), fun env c R h => h.2⟩)
    · exact fun sl env he hf => .clo rfl he hf
    · exact hclo _ _ (cloD_of (Ψ := Λ3 gm) (closS_body (fsc := defScope (top 47)) rfl rfl) rfl (fun _ _ _ => rfl) fun A2 outer2 s2 H2 f2 c2 E2 hr2 hG2 M2 RX2 ni2 hE2 => ⟨_, e_call (RX := RX2) O_cover_by (by decide) G_cover_by F_cover_by.kp (F_cover_by.bindsN fun _ _ _ _ _ _ us hl => match us, hl with | [_, _, _], _ => rfl) hE2 ni2 (a_cons (e_var 1 (fun _ => pv 1)) (a_cons (e_int) (a_cons (e_var 0 (fun _ => pv 0)) a_nil))) (fun _ => rfl), fun env c R h => h.2⟩)
    · exact fun sl env he hf => .clo rfl he hf
    · exact hclo _ _ (cloD_of (Ψ := Λ4 gm) (closS_body (fsc := defScope (top 47)) rfl rfl) rfl (fun _ _ _ => rfl) fun A2 outer2 s2 H2 f2 c2 E2 hr2 hG2 M2 RX2 ni2 hE2 => ⟨_, e_call (RX := RX2) O_cover_by (by decide) G_cover_by F_cover_by.kp (F_cover_by.bindsN fun _ _ _ _ _ _ us hl => match us, hl with | [_, _, _], _ => rfl) hE2 ni2 (a_cons (e_tup (a_cons (e_int) (a_cons (e_tup a_nil) a_nil))) (a_cons (e_int) (a_cons (e_tup a_nil) a_nil))) (fun _ => rfl), fun env c R h => h.2⟩)
    · exact fun sl env he hf => .clo rfl he hf
    · exact hclo _ _ (cloD_of (Ψ := Λ5 gm) (closS_body (fsc := defScope (top 47)) rfl rfl) rfl (fun _ _ _ => rfl) fun A2 outer2 s2 H2 f2 c2 E2 hr2 hG2 M2 RX2 ni2 hE2 => ⟨_, e_call (RX := RX2) O_cover_by (by decide) G_cover_by F_cover_by.kp (F_cover_by.bindsN fun _ _ _ _ _ _ us hl => match us, hl with | [_, _, _], _ => rfl) hE2 ni2 (a_cons (e_tup (a_cons (e_int) (a_cons (e_mulX (e_tup (a_cons (e_tup (a_cons (e_int) (a_cons (e_int) a_nil))) a_nil)) (e_int)) a_nil))) (a_cons (e_int) (a_cons (e_mulX (e_tup (a_cons (e_int) a_nil)) (e_int)) a_nil))) (fun _ => rfl), fun env c R h => h.2⟩)
  obtain ⟨ψ, ⟨t, pp, snd⟩, pure_⟩ := key
  refine ⟨t, pp (), snd _ _ (fun _ => none) H1 _ _ ?_ pure_ ⟨fun s σ G H hh r x => ?_, fun d s σ v G H hh r x hv => hh v G H hv, fun _ _ _ _ z => z.elim, fun _ _ _ _ z => z.elim⟩⟩
  · refine ⟨fun b o e => (by cases e), fun b _ _ => ⟨rfl, rfl⟩, fun p' L' e => ?_, tab0, by simp [L2.start], fun i x ov h1 h2 => ?_, fun i j ds es a h1 h2 => ?_⟩
    · cases e
      exact ⟨hp, rfl⟩
    · match i with
      | 0 => cases h1; exact True.intro
      | 1 => cases h1; cases h2; exact ⟨p, L, rfl, rfl⟩
      | i + 2 =>
        have h1' : (List.replicate 6 DL.Slot.no)[i]? = some x := h1
        cases (List.eq_of_mem_replicate (List.mem_of_getElem? h1'))
        exact True.intro
    · match i with
      | 0 => cases h1
      | 1 => cases h1
      | i + 2 =>
        have h1' : (List.replicate 6 DL.Slot.no)[i]? = some (.own ds) := h1
        cases (List.eq_of_mem_replicate (List.mem_of_getElem? h1'))
  · exact hh H
end
end K78
namespace K78
open PySem DL
open L2 (atI)
variable {gm : Gm} {c : Int} {R : D → Int → Prop} {RX : DX → Int → Prop}
/-! ### the law, its faults -/
/-- a call of which the fault is due -/
structure Due (gm : Gm) (w due : D) : Prop where
  fit : ∃ p, pyE due = some p ∧ Fit p
  run : ∀ (c : Int) (R : D → Int → Prop) (RX : DX → Int → Prop), R due c → Ψ__law_fault gm [w] c R RX
theorem are_due_ok {es : List D} (hl : es.length ≤ 100) (h : ∀ x ∈ es, ∃ w due, x = .tup [w, due] ∧ Due gm w due) (hR : R (.bl true) c) : Ψ__law_are_due gm [.lst es] c R RX := by
  refine ⟨rfl, ?_⟩
  simp [-pyE, -pyEs]
  refine lc_ind (fun acc l c' => c' = c ∧ (∀ x ∈ l, x ∈ es) ∧ acc.length + l.length = es.length ∧ acc = List.replicate acc.length (.bl true)) ?_ ?_ _ _ _ ⟨rfl, fun _ h => h, by simp, rfl⟩
  · rintro acc c' ⟨rfl, _, _, e⟩
    rw [e]
    refine ⟨List.replicate acc.length true, ?_, ?_⟩
    · generalize acc.length = n
      induction n with
      | zero => rfl
      | succ n ih => simpa [List.replicate_succ] using ih
    · simpa using hR
  · rintro acc x xs c' K ⟨rfl, hm, hle, e⟩ hK
    obtain ⟨w, due, rfl, d⟩ := h x (hm x (by simp))
    obtain ⟨p, hp, fp⟩ := d.fit
    simp [-pyE, -pyEs]
    refine d.run _ _ _ ?_
    have hle' : acc.length + (xs.length + 1) = es.length := hle
    refine ⟨p, hp, fp, p, hp, fp, by omega, ?_⟩
    rw [decide_eq_true rfl]
    refine hK _ _ ⟨rfl, fun y hy => hm y (by simp [hy]), by simp; omega, ?_⟩
    rw [List.length_append, List.length_singleton, List.replicate_succ', ← e]
theorem fault_ok {d : Clo.CloD} {env : List D} {Ψ : DFn} {due : D} (hf : flats env = true) (hc : gm.clo d Ψ) (fit : ∃ p, pyE due = some p ∧ Fit p) (h : ∀ (c : Int) (R : D → Int → Prop) (RX : DX → Int → Prop), (∀ x, (∃ tag, (tag, x.C, x.ns) ∈ tags gm ∧ .tup (.str tag :: x.ds) = due) → RX x c) → Ψ env c R RX) : Due gm (.sc d env) due where
  fit := fit
  run := by
    intro c R RX hR
    refine ⟨d, env, Ψ, rfl, hf, hc, h c _ _ fun x hx => ?_⟩
    obtain ⟨tag, ht, e⟩ := hx
    exact ⟨tag, ht, by rw [e]; exact hR⟩
def Bads : List D := [.non, .int 5, .tup [.int 0, .tup []], .tup [.int 9, .tup []], .tup [.int 2, .tup [.tup [.int 0, .int 0]]], .tup [.int 2], .tup [.bl true, .tup []]]
def Fews : List D := [.int 0, .int 7, .non, .bl true, .str "1", .tup [.int 1], .int (-8)]
def Rows : List D := [.non, .int 5, .tup [], .tup [.int 2], .tup [.int (-1)], .tup [.int 0, .int 0], .tup [.bl true], .tup [.str "0"], .str "0"]
def web2 : D := .tup [.int 2, .tup [.tup [.int 0, .int 1]]]
theorem sw0 {i : Int} (h : i.natAbs < 1000) : Sw 0 40 (.int i) := sw_int (Nat.lt_of_lt_of_le (m := 1000) h (by decide))
theorem sw_small {x : Str} (h : ((PyData.str x).leavesShort 13 && decide (x.cps.size ≤ 100)) = true) : Sw 0 100 (.str x) := by
  rw [Bool.and_eq_true] at h
  exact sw_str h.1 (of_decide_eq_true h.2)
def wB : Nat → Nat
  | 0 => 100
  | n + 1 => (wB n + 1) * 5
theorem wB_ge : ∀ n, 100 ≤ wB n
  | 0 => Nat.le_refl _
  | n + 1 => by have := wB_ge n; show 100 ≤ (wB n + 1) * 5; omega
/-- of what the law's dues are made -/
def swB : Nat → D → Bool
  | _, .non => true
  | _, .bl _ => true
  | _, .int i => decide (i.natAbs < 1000)
  | _, .str x => (PyData.str x).leavesShort 13 && decide (x.cps.size ≤ 100)
  | n + 1, .tup ds => decide (ds.length ≤ 5) && ds.all (swB n)
  | _, _ => false
theorem sw_of : ∀ {n : Nat} {d : D}, swB n d = true → Sw n (wB n) d
  | n, .non, _ => sw_non.up (Nat.zero_le _) (Nat.zero_le _)
  | n, .bl b, _ => (sw_bl b).up (Nat.zero_le _) (Nat.zero_le _)
  | n, .int i, h => by
    have h : decide (i.natAbs < 1000) = true := by cases n <;> exact h
    refine (sw0 (of_decide_eq_true h)).up (Nat.zero_le _) ?_
    have := wB_ge n
    omega
  | n, .str x, h => by
    have h : ((PyData.str x).leavesShort 13 && decide (x.cps.size ≤ 100)) = true := by cases n <;> exact h
    refine (sw_small h).up (Nat.zero_le _) ?_
    have := wB_ge n
    omega
  | n + 1, .tup ds, h => by
    have h : (decide (ds.length ≤ 5) && ds.all (swB n)) = true := h
    rw [Bool.and_eq_true] at h
    have h1 := of_decide_eq_true h.1
    have h2 := List.all_eq_true.mp h.2
    refine (sw_tup (swl_one fun d hd => sw_of (h2 d hd))).up (Nat.le_refl _) ?_
    exact Nat.mul_le_mul_left _ h1
  | 0, .tup _, h => by cases h
  | 0, .lst _, h => by cases h
  | n + 1, .lst _, h => by cases h
  | 0, .dct _ _, h => by cases h
  | n + 1, .dct _ _, h => by cases h
  | 0, .obj _ _ _, h => by cases h
  | n + 1, .obj _ _ _, h => by cases h
  | 0, .ty _, h => by cases h
  | n + 1, .ty _, h => by cases h
  | 0, .cls _, h => by cases h
  | n + 1, .cls _, h => by cases h
  | 0, .clo _, h => by cases h
  | n + 1, .clo _, h => by cases h
  | 0, .sc _ _, h => by cases h
  | n + 1, .sc _ _, h => by cases h
theorem fit_of {n : Nat} {d : D} (hn : n ≤ 5) (h : swB n d = true) : ∃ p, pyE d = some p ∧ Fit p := by
  have w5 : ∀ n ≤ 5, wB n ≤ 1048576 := by decide
  exact (sw_of h).fit (by omega) (w5 n hn)
/-! the five -/
theorem bads_ok : ∀ d ∈ Bads, dep 12 d = true ∧ isWeb (tups d) = false ∧ flat d = true ∧ swB 5 (.tup [.str "web", .str "web", d]) = true := by
  intro d hd
  simp only [Bads, List.mem_cons, List.not_mem_nil, or_false] at hd
  rcases hd with rfl | rfl | rfl | rfl | rfl | rfl | rfl <;> decide +kernel
theorem fews_ok : ∀ d ∈ Fews, (tyN d).isSome = true ∧ (∀ m, d = .int m → ¬ (1 ≤ m ∧ m ≤ 6)) ∧ flat d = true ∧ swB 5 (.tup [.str "number", .str "m", d]) = true := by
  intro d hd
  simp only [Fews, List.mem_cons, List.not_mem_nil, or_false] at hd
  rcases hd with rfl | rfl | rfl | rfl | rfl | rfl | rfl <;> refine ⟨rfl, ?_, rfl, by decide +kernel⟩ <;> (intro m e; cases e; try omega)
theorem rows_ok : ∀ d ∈ Rows, dep 12 d = true ∧ isShifts 2 1 (tups d) = false ∧ flat d = true ∧ swB 5 (.tup [.str "row", d]) = true := by
  intro d hd
  simp only [Rows, List.mem_cons, List.not_mem_nil, or_false] at hd
  rcases hd with rfl | rfl | rfl | rfl | rfl | rfl | rfl | rfl | rfl <;> decide +kernel
theorem due1 {d1 : Clo.CloD} {bad few row : D} (g : gm.clo d1 (Λ1 gm)) (hb : bad ∈ Bads) (hf : few ∈ Fews) (hr : row ∈ Rows) : Due gm (.sc d1 [bad, few, row]) (.tup [.str "web", .str "web", bad]) := by
  obtain ⟨b1, b2, b3, b4⟩ := bads_ok bad hb
  refine fault_ok (by simp [b3, (fews_ok few hf).2.2.1, (rows_ok row hr).2.2.1]) g (fit_of (Nat.le_refl _) b4) fun c R RX h => ⟨rfl, ?_⟩
  simp
  exact cover_web b1 b2 (h _ ⟨"web", by simp [tags], rfl⟩)
theorem web2_ok : dep 12 web2 = true ∧ isWeb (tups web2) = true ∧ flat web2 = true := by decide +kernel
theorem due2 {d2 : Clo.CloD} {few row : D} (g : gm.clo d2 (Λ2 gm)) (hf : few ∈ Fews) (hr : row ∈ Rows) : Due gm (.sc d2 [few, row, web2]) (.tup [.str "number", .str "m", few]) := by
  obtain ⟨b1, b2, b3, b4⟩ := fews_ok few hf
  refine fault_ok (by simp [b3, web2_ok.2.2, (rows_ok row hr).2.2.1]) g (fit_of (Nat.le_refl _) b4) fun c R RX h => ⟨rfl, ?_⟩
  simp
  exact cover_num web2_ok.1 web2_ok.2.1 b1 b2 (h _ ⟨"number", by simp [tags], rfl⟩)
theorem due3 {d3 : Clo.CloD} {row : D} (g : gm.clo d3 (Λ3 gm)) (hr : row ∈ Rows) : Due gm (.sc d3 [row, web2]) (.tup [.str "row", row]) := by
  obtain ⟨b1, b2, b3, b4⟩ := rows_ok row hr
  refine fault_ok (by simp [b3, web2_ok.2.2]) g (fit_of (Nat.le_refl _) b4) fun c R RX h => ⟨rfl, ?_⟩
  simp
  exact cover_row (n := 2) (ts := [.tup [.int 0, .int 1]]) web2_ok.1 b1 (by omega) (by omega) rfl web2_ok.2.1 b2 (h _ ⟨"row", by simp [tags], rfl⟩)
theorem due4 {d4 : Clo.CloD} (g : gm.clo d4 (Λ4 gm)) : Due gm (.sc d4 []) (.tup [.str "many", .str "places", .int 10, .int 8]) := by
  refine fault_ok rfl g (fit_of (n := 5) (Nat.le_refl _) (by decide +kernel)) fun c R RX h => ⟨rfl, ?_⟩
  simp
  exact cover_places (n := 5) (ts := []) (by decide +kernel) (by decide +kernel) (by omega) (by omega) rfl (by decide +kernel) (by decide +kernel) (by omega) (h _ ⟨"many", by simp [tags], rfl⟩)
theorem due5 {d5 : Clo.CloD} (g : gm.clo d5 (Λ5 gm)) : Due gm (.sc d5 []) (.tup [.str "many", .str "ties", .int 15, .int 12]) := by
  refine fault_ok rfl g (fit_of (n := 5) (Nat.le_refl _) (by decide +kernel)) fun c R RX h => ⟨rfl, ?_⟩
  simp
  exact cover_ties (n := 2) (ts := List.replicate 5 (.tup [.int 0, .int 1])) (by decide +kernel) (by decide +kernel) (by omega) (by omega) rfl (by decide +kernel) (by decide +kernel) (by omega) (by decide) (h _ ⟨"many", by simp [tags], rfl⟩)
end K78
namespace K78
open PySem DL
open L2 (atI)
variable {gm : Gm} {c : Int} {R : D → Int → Prop} {RX : DX → Int → Prop}
theorem no_number_ok (c0 : 0 ≤ c) (c1 : c < 500000000000) (h : ∀ x ∈ Fews, R x (c + 1)) : Ψ__law_no_number gm [.int 1, .int 6] c R RX := by
  refine ⟨rfl, ?_⟩
  simp
  exact pick (by simp) (by simp) c0 c1 h
theorem law_pure : LawPure gm := by
  intro cells d1 d2 d3 d4 d5 s1 g1 s2 g2 s3 g3 s4 g4 s5 g5 R hR
  unfold Ψ_law
  simp
  refine lc_ind (fun acc l c' => 0 ≤ c' ∧ c' ≤ 1000 * acc.length ∧ acc.length + l.length = 6 ∧ acc = List.replicate acc.length (.bl true)) ?_ ?_ _ _ _ ⟨by omega, by simp, by simp, rfl⟩
  · rintro acc c ⟨c0, c1, hl, e⟩
    have e6 : acc.length = 6 := by simpa using hl
    rw [e6] at e c1
    subst e
    refine ⟨List.replicate 6 true, rfl, ?_⟩
    simp
    refine pick (c := c) (by simp) (by simp) (by omega) (by omega) fun bad hbad => ?_
    refine no_number_ok (c := c + 1) (by omega) (by omega) fun few hfew => ?_
    refine pick (c := c + 1 + 1) (by simp) (by simp) (by omega) (by omega) fun row hrow => ?_
    have hbad : bad ∈ Bads := hbad
    have hfew : few ∈ Fews := hfew
    have hrow : row ∈ Rows := hrow
    obtain ⟨_, _, bf, _⟩ := bads_ok bad hbad
    obtain ⟨_, _, ff, _⟩ := fews_ok few hfew
    obtain ⟨_, _, rf, _⟩ := rows_ok row hrow
    refine ⟨[.lst [.tup [.sc d1 [bad, few, row], .tup [.str "web", .str "web", bad]], .tup [.sc d2 [few, row, web2], .tup [.str "number", .str "m", few]], .tup [.sc d3 [row, web2], .tup [.str "row", row]], .tup [.sc d4 [], .tup [.str "many", .str "places", .int 10, .int 8]], .tup [.sc d5 [], .tup [.str "many", .str "ties", .int 15, .int 12]]]], ?_, ?_⟩
    · refine .cons (.lst (.cons (.tup (.cons (s1 _ _ rfl ?_) (.cons (.flat ?_) .nil))) (.cons (.tup (.cons (s2 _ _ rfl ?_) (.cons (.flat ?_) .nil))) (.cons (.tup (.cons (s3 _ _ rfl ?_) (.cons (.flat ?_) .nil))) (.cons (.tup (.cons (s4 _ _ rfl rfl) (.cons (.flat rfl) .nil))) (.cons (.tup (.cons (s5 _ _ rfl rfl) (.cons (.flat rfl) .nil))) .nil)))))) .nil
      all_goals simp [bf, ff, rf, web2]
    · refine are_due_ok (by simp) (fun x hx => ?_) ⟨rfl, hR⟩
      simp only [List.mem_cons, List.not_mem_nil, or_false] at hx
      rcases hx with rfl | rfl | rfl | rfl | rfl
      · exact ⟨_, _, rfl, due1 g1 hbad hfew hrow⟩
      · exact ⟨_, _, rfl, due2 g2 hfew hrow⟩
      · exact ⟨_, _, rfl, due3 g3 hrow⟩
      · exact ⟨_, _, rfl, due4 g4⟩
      · exact ⟨_, _, rfl, due5 g5⟩
  · rintro acc x xs c' K ⟨c0, c1, hl, e⟩ hK
    have hl' : acc.length + (xs.length + 1) = 6 := hl
    simp
    refine case_ok (c := c') (by omega) (by omega) fun c2 h1 h2 => ⟨by omega, hK _ _ ⟨by omega, by simp; omega, by simp; omega, ?_⟩⟩
    rw [List.length_append, List.length_singleton, List.replicate_succ', ← e]
end K78
namespace K78
open PySem PySem.Spec PyProof.Rows L2 DL He Hx
/-! ### the errors' __init__ -/
def ini (i : Nat) : Stmt := match top i with
  | .ClassDef _ _ _ b _ _ _ _ _ _ _ => b.getD 0 (.Pass ⟨0, 0, 0, 0⟩)
  | _ => .Pass ⟨0, 0, 0, 0⟩
def rows : List Hx.Row := [("lot", "BadLot", ["lot"]), ("number", "BadNumber", ["what", "number"]), ("row", "BadRow", ["row"]), ("table", "BadTable", ["table"]), ("web", "BadWeb", ["what", "value"]), ("many", "TooMany", ["what", "many", "limit"]), ("unlike", "Unlike", ["what"])]
section
variable {P : Program} {w : World} {K : PySem.W.Frag} {mg : Str → Option Value} {base : Heap} {f : Addr} {fd : FuncData}
theorem sc_BadLot : FnScope ["self", "lot"] ["self", "lot"] (defScope (ini 6)) := ⟨rfl, rfl, rfl, by decide +kernel, rfl, by decide +kernel, by decide +kernel⟩
theorem ok_BadLot {C : Addr} (F : FunD K "__init__" "BadLot.__init__" (defArgs (ini 6)) (defBody (ini 6)) (defScope (ini 6)) [] [] f fd) (gB : mg "RoomError" = some (.ref (ga K "RoomError"))) (bB : baseB K (ga K "RoomError") = true) : FnOk P w K mg base CX0 1 f fd ["self", "lot"] (spE K C ["lot"]) := by
  have S := sc_BadLot
  obtain ⟨b1, b2, b3⟩ := baseB_ok bB
  refine F.ok S (fun vs H Q E h => ?_) (fun cdv A outer s H vs Q E hr h => ?_)
  · obtain ⟨a, ys, rfl, hl, _⟩ := h
    simpa using hl
  · exact ⟨_, PSs.nox (pss_cons (ps_expr (pe_binit (by rfl) gB b1 b2 b3 (pa_cons (pv 0) (pa_cons pe_str pa_nil)))) (pss_one (ps_ost (pv 0) (pv 1)))), semE1 h⟩
theorem sc_BadNumber : FnScope ["self", "what", "number"] ["self", "what", "number"] (defScope (ini 2)) := ⟨rfl, rfl, rfl, by decide +kernel, rfl, by decide +kernel, by decide +kernel⟩
theorem ok_BadNumber {C : Addr} (F : FunD K "__init__" "BadNumber.__init__" (defArgs (ini 2)) (defBody (ini 2)) (defScope (ini 2)) [] [] f fd) (gB : mg "RoomError" = some (.ref (ga K "RoomError"))) (bB : baseB K (ga K "RoomError") = true) : FnOk P w K mg base CX0 1 f fd ["self", "what", "number"] (spE K C ["what", "number"]) := by
  have S := sc_BadNumber
  obtain ⟨b1, b2, b3⟩ := baseB_ok bB
  refine F.ok S (fun vs H Q E h => ?_) (fun cdv A outer s H vs Q E hr h => ?_)
  · obtain ⟨a, ys, rfl, hl, _⟩ := h
    simpa using hl
  · exact ⟨_, PSs.nox (pss_cons (ps_expr (pe_binit (by rfl) gB b1 b2 b3 (pa_cons (pv 0) (pa_cons pe_str pa_nil)))) (pss_cons (ps_ost (pv 0) (pv 1)) (pss_one (ps_ost (pv 0) (pv 2))))), semE2 h⟩
theorem sc_BadRow : FnScope ["self", "row"] ["self", "row"] (defScope (ini 4)) := ⟨rfl, rfl, rfl, by decide +kernel, rfl, by decide +kernel, by decide +kernel⟩
theorem ok_BadRow {C : Addr} (F : FunD K "__init__" "BadRow.__init__" (defArgs (ini 4)) (defBody (ini 4)) (defScope (ini 4)) [] [] f fd) (gB : mg "RoomError" = some (.ref (ga K "RoomError"))) (bB : baseB K (ga K "RoomError") = true) : FnOk P w K mg base CX0 1 f fd ["self", "row"] (spE K C ["row"]) := by
  have S := sc_BadRow
  obtain ⟨b1, b2, b3⟩ := baseB_ok bB
  refine F.ok S (fun vs H Q E h => ?_) (fun cdv A outer s H vs Q E hr h => ?_)
  · obtain ⟨a, ys, rfl, hl, _⟩ := h
    simpa using hl
  · exact ⟨_, PSs.nox (pss_cons (ps_expr (pe_binit (by rfl) gB b1 b2 b3 (pa_cons (pv 0) (pa_cons pe_str pa_nil)))) (pss_one (ps_ost (pv 0) (pv 1)))), semE1 h⟩
theorem sc_BadTable : FnScope ["self", "table"] ["self", "table"] (defScope (ini 5)) := ⟨rfl, rfl, rfl, by decide +kernel, rfl, by decide +kernel, by decide +kernel⟩
theorem ok_BadTable {C : Addr} (F : FunD K "__init__" "BadTable.__init__" (defArgs (ini 5)) (defBody (ini 5)) (defScope (ini 5)) [] [] f fd) (gB : mg "RoomError" = some (.ref (ga K "RoomError"))) (bB : baseB K (ga K "RoomError") = true) : FnOk P w K mg base CX0 1 f fd ["self", "table"] (spE K C ["table"]) := by
  have S := sc_BadTable
  obtain ⟨b1, b2, b3⟩ := baseB_ok bB
  refine F.ok S (fun vs H Q E h => ?_) (fun cdv A outer s H vs Q E hr h => ?_)
  · obtain ⟨a, ys, rfl, hl, _⟩ := h
    simpa using hl
  · exact ⟨_, PSs.nox (pss_cons (ps_expr (pe_binit (by rfl) gB b1 b2 b3 (pa_cons (pv 0) (pa_cons pe_str pa_nil)))) (pss_one (ps_ost (pv 0) (pv 1)))), semE1 h⟩
theorem sc_BadWeb : FnScope ["self", "what", "value"] ["self", "what", "value"] (defScope (ini 3)) := ⟨rfl, rfl, rfl, by decide +kernel, rfl, by decide +kernel, by decide +kernel⟩
theorem ok_BadWeb {C : Addr} (F : FunD K "__init__" "BadWeb.__init__" (defArgs (ini 3)) (defBody (ini 3)) (defScope (ini 3)) [] [] f fd) (gB : mg "RoomError" = some (.ref (ga K "RoomError"))) (bB : baseB K (ga K "RoomError") = true) : FnOk P w K mg base CX0 1 f fd ["self", "what", "value"] (spE K C ["what", "value"]) := by
  have S := sc_BadWeb
  obtain ⟨b1, b2, b3⟩ := baseB_ok bB
  refine F.ok S (fun vs H Q E h => ?_) (fun cdv A outer s H vs Q E hr h => ?_)
  · obtain ⟨a, ys, rfl, hl, _⟩ := h
    simpa using hl
  · exact ⟨_, PSs.nox (pss_cons (ps_expr (pe_binit (by rfl) gB b1 b2 b3 (pa_cons (pv 0) (pa_cons pe_str pa_nil)))) (pss_cons (ps_ost (pv 0) (pv 1)) (pss_one (ps_ost (pv 0) (pv 2))))), semE2 h⟩
theorem sc_TooMany : FnScope ["self", "what", "many", "limit"] ["self", "what", "many", "limit"] (defScope (ini 8)) := ⟨rfl, rfl, rfl, by decide +kernel, rfl, by decide +kernel, by decide +kernel⟩
theorem ok_TooMany {C : Addr} (F : FunD K "__init__" "TooMany.__init__" (defArgs (ini 8)) (defBody (ini 8)) (defScope (ini 8)) [] [] f fd) (gB : mg "RoomError" = some (.ref (ga K "RoomError"))) (bB : baseB K (ga K "RoomError") = true) : FnOk P w K mg base CX0 1 f fd ["self", "what", "many", "limit"] (spE K C ["what", "many", "limit"]) := by
  have S := sc_TooMany
  obtain ⟨b1, b2, b3⟩ := baseB_ok bB
  refine F.ok S (fun vs H Q E h => ?_) (fun cdv A outer s H vs Q E hr h => ?_)
  · obtain ⟨a, ys, rfl, hl, _⟩ := h
    simpa using hl
  · exact ⟨_, PSs.nox (pss_cons (ps_expr (pe_binit (by rfl) gB b1 b2 b3 (pa_cons (pv 0) (pa_cons pe_str pa_nil)))) (pss_cons (ps_ost (pv 0) (pv 1)) (pss_cons (ps_ost (pv 0) (pv 2)) (pss_one (ps_ost (pv 0) (pv 3)))))), semE3 h⟩
theorem sc_Unlike : FnScope ["self", "what"] ["self", "what"] (defScope (ini 7)) := ⟨rfl, rfl, rfl, by decide +kernel, rfl, by decide +kernel, by decide +kernel⟩
theorem ok_Unlike {C : Addr} (F : FunD K "__init__" "Unlike.__init__" (defArgs (ini 7)) (defBody (ini 7)) (defScope (ini 7)) [] [] f fd) (gB : mg "RoomError" = some (.ref (ga K "RoomError"))) (bB : baseB K (ga K "RoomError") = true) : FnOk P w K mg base CX0 1 f fd ["self", "what"] (spE K C ["what"]) := by
  have S := sc_Unlike
  obtain ⟨b1, b2, b3⟩ := baseB_ok bB
  refine F.ok S (fun vs H Q E h => ?_) (fun cdv A outer s H vs Q E hr h => ?_)
  · obtain ⟨a, ys, rfl, hl, _⟩ := h
    simpa using hl
  · exact ⟨_, PSs.nox (pss_cons (ps_expr (pe_binit (by rfl) gB b1 b2 b3 (pa_cons (pv 0) (pa_cons pe_str pa_nil)))) (pss_one (ps_ost (pv 0) (pv 1)))), semE1 h⟩
end
/-! ### the head -/
def fa : List Fa := [.glo "is_whole", .glo "in_tuples", .glo "is_tuple_of", .glo "need_between", .glo "is_web", .glo "web_from", .glo "is_end", .glo "is_way", .glo "is_web_map", .glo "way_from", .glo "ends_over", .glo "is_cover_by", .glo "is_cover", .glo "shifts_from", .glo "cover_by", .glo "_law_pen", .glo "_law_draw", .glo "_law_pick", .glo "_law_shuffled", .glo "_law_gcd", .glo "_law_fault", .glo "_law_are_due", .glo "_law_no_number", .glo "_law_plain_web", .glo "_law_own", .glo "_law_lots", .glo "_law_rounds", .glo "_law_case", .glo "law", .free "isinstance", .free "int", .free "bool", .free "str", .free "len", .free "all", .free "any", .free "sum", .free "tuple", .free "list", .free "range", .free "enumerate", .free "zip", .free "min", .free "max", .free "abs", .free "sorted", .free "set", .free "repr", .free "dict", .glo "RoomError", .glo "BadLot", .glo "BadNumber", .glo "BadRow", .glo "BadTable", .glo "BadWeb", .glo "TooMany", .glo "Unlike", .int "MOST_PLACES_kinds" 8, .int "MOST_TIES_kinds" 12, .int "MOST_TURNS" 6, .int "MOST_PLACES_turnings" 8, .int "MOST_TIES_turnings" 12]
def fn : List DefD := [⟨("is_whole", none), "is_whole", "is_whole", defArgs (top 10), defBody (top 10), defScope (top 10), [], []⟩, ⟨("in_tuples", none), "in_tuples", "in_tuples", defArgs (top 11), defBody (top 11), defScope (top 11), [], []⟩, ⟨("is_tuple_of", none), "is_tuple_of", "is_tuple_of", defArgs (top 12), defBody (top 12), defScope (top 12), [], []⟩, ⟨("need_between", none), "need_between", "need_between", defArgs (top 13), defBody (top 13), defScope (top 13), [], []⟩, ⟨("is_web", none), "is_web", "is_web", defArgs (top 17), defBody (top 17), defScope (top 17), [], []⟩, ⟨("web_from", none), "web_from", "web_from", defArgs (top 18), defBody (top 18), defScope (top 18), [], []⟩, ⟨("is_end", none), "is_end", "is_end", defArgs (top 20), defBody (top 20), defScope (top 20), [], []⟩, ⟨("is_way", none), "is_way", "is_way", defArgs (top 21), defBody (top 21), defScope (top 21), [], []⟩, ⟨("is_web_map", none), "is_web_map", "is_web_map", defArgs (top 22), defBody (top 22), defScope (top 22), [], []⟩, ⟨("way_from", none), "way_from", "way_from", defArgs (top 23), defBody (top 23), defScope (top 23), [], []⟩, ⟨("ends_over", none), "ends_over", "ends_over", defArgs (top 24), defBody (top 24), defScope (top 24), [], []⟩, ⟨("is_cover_by", none), "is_cover_by", "is_cover_by", defArgs (top 25), defBody (top 25), defScope (top 25), [], []⟩, ⟨("is_cover", none), "is_cover", "is_cover", defArgs (top 26), defBody (top 26), defScope (top 26), [], []⟩, ⟨("shifts_from", none), "shifts_from", "shifts_from", defArgs (top 31), defBody (top 31), defScope (top 31), [], []⟩, ⟨("cover_by", none), "cover_by", "cover_by", defArgs (top 32), defBody (top 32), defScope (top 32), [], []⟩, ⟨("_law_pen", none), "_law_pen", "_law_pen", defArgs (top 34), defBody (top 34), defScope (top 34), [], []⟩, ⟨("_law_draw", none), "_law_draw", "_law_draw", defArgs (top 35), defBody (top 35), defScope (top 35), [], []⟩, ⟨("_law_pick", none), "_law_pick", "_law_pick", defArgs (top 36), defBody (top 36), defScope (top 36), [], []⟩, ⟨("_law_shuffled", none), "_law_shuffled", "_law_shuffled", defArgs (top 37), defBody (top 37), defScope (top 37), [], []⟩, ⟨("_law_gcd", none), "_law_gcd", "_law_gcd", defArgs (top 38), defBody (top 38), defScope (top 38), [], []⟩, ⟨("_law_fault", none), "_law_fault", "_law_fault", defArgs (top 39), defBody (top 39), defScope (top 39), [], []⟩, ⟨("_law_are_due", none), "_law_are_due", "_law_are_due", defArgs (top 40), defBody (top 40), defScope (top 40), [], []⟩, ⟨("_law_no_number", none), "_law_no_number", "_law_no_number", defArgs (top 41), defBody (top 41), defScope (top 41), [], []⟩, ⟨("_law_plain_web", none), "_law_plain_web", "_law_plain_web", defArgs (top 42), defBody (top 42), defScope (top 42), [], []⟩, ⟨("_law_own", none), "_law_own", "_law_own", defArgs (top 43), defBody (top 43), defScope (top 43), [], []⟩, ⟨("_law_lots", none), "_law_lots", "_law_lots", defArgs (top 44), defBody (top 44), defScope (top 44), [], []⟩, ⟨("_law_rounds", none), "_law_rounds", "_law_rounds", defArgs (top 45), defBody (top 45), defScope (top 45), [], []⟩, ⟨("_law_case", none), "_law_case", "_law_case", defArgs (top 46), defBody (top 46), defScope (top 46), [], []⟩, ⟨("law", none), "law", "law", defArgs (top 47), defBody (top 47), defScope (top 47), [], []⟩, ⟨("BadLot", some "__init__"), "__init__", "BadLot.__init__", defArgs (ini 6), defBody (ini 6), defScope (ini 6), [], []⟩, ⟨("BadNumber", some "__init__"), "__init__", "BadNumber.__init__", defArgs (ini 2), defBody (ini 2), defScope (ini 2), [], []⟩, ⟨("BadRow", some "__init__"), "__init__", "BadRow.__init__", defArgs (ini 4), defBody (ini 4), defScope (ini 4), [], []⟩, ⟨("BadTable", some "__init__"), "__init__", "BadTable.__init__", defArgs (ini 5), defBody (ini 5), defScope (ini 5), [], []⟩, ⟨("BadWeb", some "__init__"), "__init__", "BadWeb.__init__", defArgs (ini 3), defBody (ini 3), defScope (ini 3), [], []⟩, ⟨("TooMany", some "__init__"), "__init__", "TooMany.__init__", defArgs (ini 8), defBody (ini 8), defScope (ini 8), [], []⟩, ⟨("Unlike", some "__init__"), "__init__", "Unlike.__init__", defArgs (ini 7), defBody (ini 7), defScope (ini 7), [], []⟩]
def tf : List Defn := [("_law_case", none), ("law", none)]
def exB (K : PySem.W.Frag) : Bool := (K.lookup sysModules).isSome && (baseB K (ga K "RoomError") && (tagsK K rows && decide ((tf.map fun p => (cT K p).2).Nodup)))
abbrev hk : PySem.W.Hook := hookY 5 fa fn tf exB
def ob (s : PySem.W.SharedT) : AlY := obsY 5 fa fn tf exB (HandSHeadRun.getT s)
theorem ob_eq (s : PySem.W.SharedT) : ob s = hk.obs s.abs := obsY_eq (HandSHeadRun.getT_eq s)
abbrev R : PySem.W.OpenRow := PySem.W.OpenLaw.row PySem.Challenge.rw_webrooms_k78_covers_by_turns
def loose : List Str := [("__name__" : Str), ("RoomError" : Str), ("BadNumber" : Str), ("BadWeb" : Str), ("BadRow" : Str), ("BadTable" : Str), ("BadLot" : Str), ("Unlike" : Str), ("TooMany" : Str), ("is_whole" : Str), ("in_tuples" : Str), ("is_tuple_of" : Str), ("need_between" : Str), ("MOST_PLACES_kinds" : Str), ("MOST_TIES_kinds" : Str), ("is_web" : Str), ("web_from" : Str), ("is_end" : Str), ("is_way" : Str), ("is_web_map" : Str), ("way_from" : Str), ("ends_over" : Str), ("is_cover_by" : Str), ("is_cover" : Str), ("MOST_TURNS" : Str), ("MOST_PLACES_turnings" : Str), ("MOST_TIES_turnings" : Str), ("shifts_from" : Str), ("cover_by" : Str), ("_law_pen" : Str), ("_law_draw" : Str), ("_law_pick" : Str), ("_law_shuffled" : Str), ("_law_gcd" : Str), ("_law_fault" : Str), ("_law_are_due" : Str), ("_law_no_number" : Str), ("_law_plain_web" : Str), ("_law_own" : Str), ("_law_lots" : Str), ("_law_rounds" : Str), ("_law_case" : Str)]
theorem run (w : World) : HandSHeadRun.RunEq R (PySem.W.view R.prog [47]) hk ob 60000 loose w := by
  intro os
  kernel_rfl
section
variable {P : Program} {w : World} {K : PySem.W.Frag} {hp : Heap} {mg : Str → Option Value} {base : Heap}
def tabT (K : PySem.W.Frag) : List (Addr × Str) := [((cT K ("_law_case", none)).2, ("_law_case.<locals>.<lambda>" : Str)), ((cT K ("law", none)).2, ("law.<locals>.<lambda>" : Str))]
def gmK (P : Program) (w : World) (K : PySem.W.Frag) (mg : Str → Option Value) (base : Heap) : Gm := ⟨fun x => ga K x, fun d Ψ => DL.CloD P w K mg base 39 d Ψ⟩
theorem uniqT (h : (tf.map fun p => (cT K p).2).Nodup) (i : Nat) {a : Addr} {q : Str} (hi : (tabT K)[i]? = some (a, q)) : ∀ p ∈ tabT K, p.1 = a → p.2 = q := by
  intro p hp e
  obtain ⟨j, hj, rfl⟩ := List.getElem_of_mem hp
  have hm : tf.map (fun p => (cT K p).2) = (tabT K).map Prod.fst := rfl
  rw [hm] at h
  have e1 : ((tabT K).map Prod.fst)[j]? = some a := by rw [List.getElem?_map, List.getElem?_eq_getElem hj]; exact congrArg some e
  have e2 : ((tabT K).map Prod.fst)[i]? = some a := by rw [List.getElem?_map, hi]; rfl
  have e4 : j = i := nd_inj h e1 e2
  subst e4
  rw [List.getElem?_eq_getElem hj] at hi
  rw [Option.some.inj hi]
theorem al_of (X : K.In hp) (G : hp.Ns mainGlobals mg) (c : SaysY fa fn tf exB hp K) (KB : K.In base) (GB : base.Ns mainGlobals mg) (TB : ∀ p ∈ tf.map (cT K), LamX.TabB base mg p.1 p.2) :
    ∃ fd, FunD K "law" "law" (defArgs (top 47)) (defBody (top 47)) (defScope (top 47)) [] [] (ga K "law") fd ∧ Gd.FnG P w K mg base (L2.CX P w) 45 (ga K "law") fd ["script"] (spLaw K (tabT K)) := by
  obtain ⟨x1, x⟩ := ba c.ex
  obtain ⟨x2, x⟩ := ba x
  obtain ⟨x3, x4⟩ := ba x
  have x4 := of_decide_eq_true x4
  have Sy : Sys K := sys_of x1
  have er := fun {q : Hx.Row} (hq : q ∈ rows) => tagsK_err x3 hq
  have B : Bs mg := ⟨(free_ok X G (c.d.fact 29 rfl)), (free_ok X G (c.d.fact 30 rfl)), (free_ok X G (c.d.fact 31 rfl)), (free_ok X G (c.d.fact 32 rfl)), (free_ok X G (c.d.fact 33 rfl)), (free_ok X G (c.d.fact 34 rfl)), (free_ok X G (c.d.fact 35 rfl)), (free_ok X G (c.d.fact 36 rfl)), (free_ok X G (c.d.fact 37 rfl)), (free_ok X G (c.d.fact 38 rfl)), (free_ok X G (c.d.fact 39 rfl)), (free_ok X G (c.d.fact 40 rfl)), (free_ok X G (c.d.fact 41 rfl)), (free_ok X G (c.d.fact 42 rfl)), (free_ok X G (c.d.fact 43 rfl)), (free_ok X G (c.d.fact 44 rfl)), (free_ok X G (c.d.fact 45 rfl)), (free_ok X G (c.d.fact 46 rfl)), (free_ok X G (c.d.fact 47 rfl)), (free_ok X G (c.d.fact 48 rfl))⟩
  obtain ⟨fd_is_whole, F_is_whole⟩ := c.d.def_ 0 rfl
  obtain ⟨fd_in_tuples, F_in_tuples⟩ := c.d.def_ 1 rfl
  obtain ⟨fd_is_tuple_of, F_is_tuple_of⟩ := c.d.def_ 2 rfl
  obtain ⟨fd_need_between, F_need_between⟩ := c.d.def_ 3 rfl
  obtain ⟨fd_is_web, F_is_web⟩ := c.d.def_ 4 rfl
  obtain ⟨fd_web_from, F_web_from⟩ := c.d.def_ 5 rfl
  obtain ⟨fd_is_end, F_is_end⟩ := c.d.def_ 6 rfl
  obtain ⟨fd_is_way, F_is_way⟩ := c.d.def_ 7 rfl
  obtain ⟨fd_is_web_map, F_is_web_map⟩ := c.d.def_ 8 rfl
  obtain ⟨fd_way_from, F_way_from⟩ := c.d.def_ 9 rfl
  obtain ⟨fd_ends_over, F_ends_over⟩ := c.d.def_ 10 rfl
  obtain ⟨fd_is_cover_by, F_is_cover_by⟩ := c.d.def_ 11 rfl
  obtain ⟨fd_is_cover, F_is_cover⟩ := c.d.def_ 12 rfl
  obtain ⟨fd_shifts_from, F_shifts_from⟩ := c.d.def_ 13 rfl
  obtain ⟨fd_cover_by, F_cover_by⟩ := c.d.def_ 14 rfl
  obtain ⟨fd__law_pen, F__law_pen⟩ := c.d.def_ 15 rfl
  obtain ⟨fd__law_draw, F__law_draw⟩ := c.d.def_ 16 rfl
  obtain ⟨fd__law_pick, F__law_pick⟩ := c.d.def_ 17 rfl
  obtain ⟨fd__law_shuffled, F__law_shuffled⟩ := c.d.def_ 18 rfl
  obtain ⟨fd__law_gcd, F__law_gcd⟩ := c.d.def_ 19 rfl
  obtain ⟨fd__law_fault, F__law_fault⟩ := c.d.def_ 20 rfl
  obtain ⟨fd__law_are_due, F__law_are_due⟩ := c.d.def_ 21 rfl
  obtain ⟨fd__law_no_number, F__law_no_number⟩ := c.d.def_ 22 rfl
  obtain ⟨fd__law_plain_web, F__law_plain_web⟩ := c.d.def_ 23 rfl
  obtain ⟨fd__law_own, F__law_own⟩ := c.d.def_ 24 rfl
  obtain ⟨fd__law_lots, F__law_lots⟩ := c.d.def_ 25 rfl
  obtain ⟨fd__law_rounds, F__law_rounds⟩ := c.d.def_ 26 rfl
  obtain ⟨fd__law_case, F__law_case⟩ := c.d.def_ 27 rfl
  obtain ⟨fd_law, F_law⟩ := c.d.def_ 28 rfl
  obtain ⟨fd_BadLot, F_BadLot⟩ := c.d.def_ 29 rfl
  have e_BadLot := er (q := ("lot", "BadLot", ["lot"])) (by simp [rows])
  have T_BadLot : Err P w K mg base "BadLot" ((gmK P w K mg base).a "BadLot") ["lot"] := ⟨(glo_ok X G (c.d.fact 50 rfl)), e_BadLot.cls, ⟨_, fd_BadLot, e_BadLot.ini, e_BadLot.fn, ok_BadLot F_BadLot (glo_ok X G (c.d.fact 49 rfl)) x2, F_BadLot.bindsN fun _ _ _ _ _ _ us hl => match us, hl with | [_, _], _ => rfl⟩, e_BadLot.no⟩
  obtain ⟨fd_BadNumber, F_BadNumber⟩ := c.d.def_ 30 rfl
  have e_BadNumber := er (q := ("number", "BadNumber", ["what", "number"])) (by simp [rows])
  have T_BadNumber : Err P w K mg base "BadNumber" ((gmK P w K mg base).a "BadNumber") ["what", "number"] := ⟨(glo_ok X G (c.d.fact 51 rfl)), e_BadNumber.cls, ⟨_, fd_BadNumber, e_BadNumber.ini, e_BadNumber.fn, ok_BadNumber F_BadNumber (glo_ok X G (c.d.fact 49 rfl)) x2, F_BadNumber.bindsN fun _ _ _ _ _ _ us hl => match us, hl with | [_, _, _], _ => rfl⟩, e_BadNumber.no⟩
  obtain ⟨fd_BadRow, F_BadRow⟩ := c.d.def_ 31 rfl
  have e_BadRow := er (q := ("row", "BadRow", ["row"])) (by simp [rows])
  have T_BadRow : Err P w K mg base "BadRow" ((gmK P w K mg base).a "BadRow") ["row"] := ⟨(glo_ok X G (c.d.fact 52 rfl)), e_BadRow.cls, ⟨_, fd_BadRow, e_BadRow.ini, e_BadRow.fn, ok_BadRow F_BadRow (glo_ok X G (c.d.fact 49 rfl)) x2, F_BadRow.bindsN fun _ _ _ _ _ _ us hl => match us, hl with | [_, _], _ => rfl⟩, e_BadRow.no⟩
  obtain ⟨fd_BadTable, F_BadTable⟩ := c.d.def_ 32 rfl
  have e_BadTable := er (q := ("table", "BadTable", ["table"])) (by simp [rows])
  have T_BadTable : Err P w K mg base "BadTable" ((gmK P w K mg base).a "BadTable") ["table"] := ⟨(glo_ok X G (c.d.fact 53 rfl)), e_BadTable.cls, ⟨_, fd_BadTable, e_BadTable.ini, e_BadTable.fn, ok_BadTable F_BadTable (glo_ok X G (c.d.fact 49 rfl)) x2, F_BadTable.bindsN fun _ _ _ _ _ _ us hl => match us, hl with | [_, _], _ => rfl⟩, e_BadTable.no⟩
  obtain ⟨fd_BadWeb, F_BadWeb⟩ := c.d.def_ 33 rfl
  have e_BadWeb := er (q := ("web", "BadWeb", ["what", "value"])) (by simp [rows])
  have T_BadWeb : Err P w K mg base "BadWeb" ((gmK P w K mg base).a "BadWeb") ["what", "value"] := ⟨(glo_ok X G (c.d.fact 54 rfl)), e_BadWeb.cls, ⟨_, fd_BadWeb, e_BadWeb.ini, e_BadWeb.fn, ok_BadWeb F_BadWeb (glo_ok X G (c.d.fact 49 rfl)) x2, F_BadWeb.bindsN fun _ _ _ _ _ _ us hl => match us, hl with | [_, _, _], _ => rfl⟩, e_BadWeb.no⟩
  obtain ⟨fd_TooMany, F_TooMany⟩ := c.d.def_ 34 rfl
  have e_TooMany := er (q := ("many", "TooMany", ["what", "many", "limit"])) (by simp [rows])
  have T_TooMany : Err P w K mg base "TooMany" ((gmK P w K mg base).a "TooMany") ["what", "many", "limit"] := ⟨(glo_ok X G (c.d.fact 55 rfl)), e_TooMany.cls, ⟨_, fd_TooMany, e_TooMany.ini, e_TooMany.fn, ok_TooMany F_TooMany (glo_ok X G (c.d.fact 49 rfl)) x2, F_TooMany.bindsN fun _ _ _ _ _ _ us hl => match us, hl with | [_, _, _, _], _ => rfl⟩, e_TooMany.no⟩
  obtain ⟨fd_Unlike, F_Unlike⟩ := c.d.def_ 35 rfl
  have e_Unlike := er (q := ("unlike", "Unlike", ["what"])) (by simp [rows])
  have T_Unlike : Err P w K mg base "Unlike" ((gmK P w K mg base).a "Unlike") ["what"] := ⟨(glo_ok X G (c.d.fact 56 rfl)), e_Unlike.cls, ⟨_, fd_Unlike, e_Unlike.ini, e_Unlike.fn, ok_Unlike F_Unlike (glo_ok X G (c.d.fact 49 rfl)) x2, F_Unlike.bindsN fun _ _ _ _ _ _ us hl => match us, hl with | [_, _], _ => rfl⟩, e_Unlike.no⟩
  have TG : TagsOk K (tags (gmK P w K mg base)) := tagsK_ok (l := rows) x3
  have h__law_draw : Ok__law_draw P w K mg base (tabT K) (gmK P w K mg base) := ok__law_draw B F__law_draw (glo_ok X G (c.d.fact 16 rfl))
  have h_in_tuples : Ok_in_tuples P w K mg base (tabT K) (gmK P w K mg base) := ok_in_tuples B F_in_tuples (glo_ok X G (c.d.fact 1 rfl))
  have h__law_fault : Ok__law_fault P w K mg base (tabT K) (gmK P w K mg base) := ok__law_fault F__law_fault TG (glo_ok X G (c.d.fact 50 rfl)) e_BadLot.xf e_BadLot.no (glo_ok X G (c.d.fact 51 rfl)) e_BadNumber.xf e_BadNumber.no (glo_ok X G (c.d.fact 52 rfl)) e_BadRow.xf e_BadRow.no (glo_ok X G (c.d.fact 53 rfl)) e_BadTable.xf e_BadTable.no (glo_ok X G (c.d.fact 54 rfl)) e_BadWeb.xf e_BadWeb.no (glo_ok X G (c.d.fact 55 rfl)) e_TooMany.xf e_TooMany.no (glo_ok X G (c.d.fact 56 rfl)) e_Unlike.xf e_Unlike.no (glo_ok X G (c.d.fact 20 rfl)) (fun _ _ h => h)
  have h_is_whole : Ok_is_whole P w K mg base (tabT K) (gmK P w K mg base) := ok_is_whole B Sy F_is_whole (glo_ok X G (c.d.fact 0 rfl))
  have h_is_tuple_of : Ok_is_tuple_of P w K mg base (tabT K) (gmK P w K mg base) := ok_is_tuple_of B Sy F_is_tuple_of (glo_ok X G (c.d.fact 2 rfl))
  have h_need_between : Ok_need_between P w K mg base (tabT K) (gmK P w K mg base) := ok_need_between B Sy F_need_between T_BadNumber h_is_whole (glo_ok X G (c.d.fact 3 rfl))
  have h_is_web : Ok_is_web P w K mg base (tabT K) (gmK P w K mg base) := ok_is_web B Sy F_is_web h_is_whole h_is_tuple_of (int_ok X G (c.d.fact 57 rfl)) (int_ok X G (c.d.fact 58 rfl)) (glo_ok X G (c.d.fact 4 rfl))
  have h_web_from : Ok_web_from P w K mg base (tabT K) (gmK P w K mg base) := ok_web_from B Sy F_web_from T_BadWeb h_in_tuples h_is_web (glo_ok X G (c.d.fact 5 rfl))
  have h_is_end : Ok_is_end P w K mg base (tabT K) (gmK P w K mg base) := ok_is_end B Sy F_is_end h_is_whole h_is_tuple_of (glo_ok X G (c.d.fact 6 rfl))
  have h_is_way : Ok_is_way P w K mg base (tabT K) (gmK P w K mg base) := ok_is_way B Sy F_is_way h_is_tuple_of h_is_whole h_is_end (glo_ok X G (c.d.fact 7 rfl))
  have h_is_web_map : Ok_is_web_map P w K mg base (tabT K) (gmK P w K mg base) := ok_is_web_map B Sy F_is_web_map h_web_from h_is_way (glo_ok X G (c.d.fact 8 rfl))
  have h_way_from : Ok_way_from P w K mg base (tabT K) (gmK P w K mg base) := ok_way_from B Sy F_way_from T_BadRow h_in_tuples h_is_way (glo_ok X G (c.d.fact 9 rfl))
  have h_ends_over : Ok_ends_over P w K mg base (tabT K) (gmK P w K mg base) := ok_ends_over B Sy F_ends_over (glo_ok X G (c.d.fact 10 rfl))
  have h_is_cover_by : Ok_is_cover_by P w K mg base (tabT K) (gmK P w K mg base) := ok_is_cover_by B Sy F_is_cover_by h_ends_over (glo_ok X G (c.d.fact 11 rfl))
  have h_is_cover : Ok_is_cover P w K mg base (tabT K) (gmK P w K mg base) := ok_is_cover B Sy F_is_cover h_web_from h_is_cover_by h_way_from (glo_ok X G (c.d.fact 12 rfl))
  have h_shifts_from : Ok_shifts_from P w K mg base (tabT K) (gmK P w K mg base) := ok_shifts_from B Sy F_shifts_from T_BadRow h_in_tuples h_is_whole h_is_tuple_of (glo_ok X G (c.d.fact 13 rfl))
  have h_cover_by : Ok_cover_by P w K mg base (tabT K) (gmK P w K mg base) := ok_cover_by B Sy F_cover_by T_TooMany h_web_from h_need_between h_shifts_from (int_ok X G (c.d.fact 59 rfl)) (int_ok X G (c.d.fact 60 rfl)) (int_ok X G (c.d.fact 61 rfl)) (glo_ok X G (c.d.fact 14 rfl))
  have h__law_pick : Ok__law_pick P w K mg base (tabT K) (gmK P w K mg base) := ok__law_pick B Sy F__law_pick h__law_draw (glo_ok X G (c.d.fact 17 rfl))
  have h__law_shuffled : Ok__law_shuffled P w K mg base (tabT K) (gmK P w K mg base) := ok__law_shuffled B Sy F__law_shuffled h__law_draw (glo_ok X G (c.d.fact 18 rfl))
  have h__law_gcd : Ok__law_gcd P w K mg base (tabT K) (gmK P w K mg base) := ok__law_gcd B Sy F__law_gcd (glo_ok X G (c.d.fact 19 rfl))
  have h__law_are_due : Ok__law_are_due P w K mg base (tabT K) (gmK P w K mg base) := ok__law_are_due B Sy F__law_are_due h__law_fault (glo_ok X G (c.d.fact 21 rfl))
  have h__law_no_number : Ok__law_no_number P w K mg base (tabT K) (gmK P w K mg base) := ok__law_no_number B Sy F__law_no_number h__law_pick (glo_ok X G (c.d.fact 22 rfl))
  have h__law_plain_web : Ok__law_plain_web P w K mg base (tabT K) (gmK P w K mg base) := ok__law_plain_web B Sy F__law_plain_web h__law_draw h__law_shuffled (glo_ok X G (c.d.fact 23 rfl))
  have h__law_own : Ok__law_own P w K mg base (tabT K) (gmK P w K mg base) := ok__law_own B Sy F__law_own (glo_ok X G (c.d.fact 24 rfl))
  have h__law_lots : Ok__law_lots P w K mg base (tabT K) (gmK P w K mg base) := ok__law_lots B Sy F__law_lots (glo_ok X G (c.d.fact 25 rfl))
  have h__law_rounds : Ok__law_rounds P w K mg base (tabT K) (gmK P w K mg base) := ok__law_rounds B Sy F__law_rounds h__law_gcd (glo_ok X G (c.d.fact 26 rfl))
  have h__law_case : Ok__law_case P w K mg base (tabT K) (gmK P w K mg base) := ok__law_case B Sy F__law_case h__law_draw h__law_plain_web h__law_pick h__law_fault h_cover_by h__law_own h_is_cover h_is_web_map h__law_lots h__law_rounds ⟨_, _, code_of (p := ("_law_case", none)) F__law_case, TB _ (List.mem_map_of_mem (f := cT K) (show (("_law_case", none) : Defn) ∈ tf by simp [tf])), by simp [tabT], uniqT x4 0 (by rfl)⟩ (glo_ok X G (c.d.fact 27 rfl))
  exact ⟨fd_law, F_law, ok_law B Sy F_law ⟨_, _, F__law_pen, (glo_ok X G (c.d.fact 15 rfl))⟩ h__law_case h__law_pick h__law_no_number h_cover_by h__law_are_due ⟨_, _, code_of (p := ("law", none)) F_law, TB _ (List.mem_map_of_mem (f := cT K) (show (("law", none) : Defn) ∈ tf by simp [tf])), by simp [tabT], uniqT x4 1 (by rfl)⟩ (fun _ _ h => h) law_pure⟩
end
theorem facts {P : Program} {w : World} {K : PySem.W.Frag} {hp : Heap} {mg : Str → Option Value} {f : Addr} (X : K.In hp) (G : hp.Ns mainGlobals mg) (hfa : mg ("law" : Str) = some (.ref f)) (c : SaysY fa fn tf exB hp K) :
    ∃ fd : FuncData, (∀ (s : Shared) (v : Value), BindsTo s fd ⟨[v], []⟩ [("script", v)]) ∧ ∀ base : Heap, K.In base → base.Ns mainGlobals mg → (∀ p ∈ tf.map (cT K), LamX.TabB base mg p.1 p.2) → Gd.FnG P w K mg base (L2.CX P w) 45 f fd ["script"] (spLaw K (tabT K)) := by
  obtain ⟨fd, F⟩ := c.d.def_ 28 rfl
  have e := hfa.symm.trans (glo_ok X G (c.d.fact 28 rfl))
  cases e
  have b := FunD.bindsA (ps := ["script"]) F fun _ _ _ _ _ _ us hl => match us, hl with | [_], _ => rfl
  refine ⟨fd, fun s v => b s [v] rfl, fun base KB GB TB => ?_⟩
  obtain ⟨fd2, F2, h⟩ := al_of (P := P) (w := w) X G c KB GB TB
  obtain ⟨_, _, _, _, _, _, _, _, _, _, rfl, lk, _⟩ := F.ex
  obtain ⟨_, _, _, _, _, _, _, _, _, _, rfl, lk2, _⟩ := F2.ex
  have e := lk.symm.trans lk2
  cases e
  exact h
end K78
open PySem PySem.W PySem.Calls PyProof.Rows
theorem PySem.Challenge.cw_webrooms_k78_covers_by_turns_holds : PySem.Challenge.rw_webrooms_k78_covers_by_turns.Holds := by
  w_on; o_law
  refine HandSHeadRun.head_any (r := OpenLaw.row PySem.Challenge.rw_webrooms_k78_covers_by_turns) (q := view (OpenLaw.row PySem.Challenge.rw_webrooms_k78_covers_by_turns).prog [47]) (H := K78.hk) (ob := K78.ob) (M := 60000) (loose := K78.loose) (d := HandSHeadRun.topDef (OpenLaw.row PySem.Challenge.rw_webrooms_k78_covers_by_turns).prog 47) (kwd := []) K78.ob_eq
    (by kernel_rfl) (fun s => by kernel_rfl) K78.run (by kernel_rfl) (by kernel_rfl) (by kernel_rfl) (by rfl) (by first | assumption | decide +kernel) (by decide +kernel) ⟨rfl, rfl, rfl, rfl, rfl, by decide +kernel⟩ ?hw ?hc
  case hw => w_witness2
  case hc =>
    refine Gd.walk_ofTG (l := PySem.Challenge.rw_webrooms_k78_covers_by_turns) (n := 63) (k := 45) (x := "script") (CX := fun w => L2.CX (PySem.Challenge.rw_webrooms_k78_covers_by_turns).prog w) rfl (by decide) (by kernel_rfl) ⟨rfl, by decide, by decide⟩ ?F (fun _ _ _ _ _ ⟨_, _, _, _, _, _, _, _, _, _, _, _, f⟩ => f)
    intro w mg fa h Y G hmg0
    obtain ⟨K, KX, c⟩ := Y
    have hmg : mg ("law" : PySem.Str) = some (.ref fa) := by
      have e : (HandSHeadRun.topDef (OpenLaw.row PySem.Challenge.rw_webrooms_k78_covers_by_turns).prog 47).name = ("law" : PySem.Str) := by kernel_rfl
      rw [← e]
      exact hmg0
    obtain ⟨fd, hb, hF⟩ := K78.facts (P := (PySem.Challenge.rw_webrooms_k78_covers_by_turns).prog) (w := w) KX G hmg c
    refine ⟨K, fd, K78.tf.map (He.cT K), K78.spLaw K (K78.tabT K), KX, c.tabs KX, hb, fun H a ns hl hT hS => ⟨a, ns, rfl, hS, by omega, Hx.tabG0 fun p hp => ?_, fun _ => rfl⟩, hF⟩
    have hm : (K78.tabT K).map Prod.fst = (K78.tf.map (He.cT K)).map Prod.snd := rfl
    have hp2 : p.1 ∈ (K78.tf.map (He.cT K)).map Prod.snd := by rw [← hm]; exact List.mem_map_of_mem hp
    obtain ⟨q, hq, e⟩ := List.mem_map.mp hp2
    rw [← e]
    exact hT q hq
