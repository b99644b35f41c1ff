import PyProof.Rows.All
import Wide.All
import OpenK.AllK
import Wide.FinOn
import HandS.ForMost
import HandS.More
import HandS.Defaults
import HandS.Lambda
import HandS.MakeKw
import HandS.EndTab
import PyProof.ReprRoads
import KE.KNestM
import HandS.HeadHook1
import HandS.HeadHook2
import HandS.HeadHook3
import HandS.HeadHook4
import HandS.ExcField
import Lean
import KE.KStateDown
import HandS.Ends
import HandS.Head0
import HandS.Head1
import HandS.Head2
import HandS.HeadEnd
import HandS.Head3
import HandS.Head4
import PySem.Challenge.RW_webrooms_k74_maps_of_webs
import KE.KLam
import PyProof.EnumMake
import PyProof.Draws
import HandS.Iter
import HandS.Zip0
import HandS.Codes
import HandS.IsInst
import HandS.Comp
import HandS.ExcInit
import HandS.TupLe
import HandS.Zip
import HandS.TupMul
import HandS.WideBits
import HandS.NoneIn
import HandS.Conv
import HandS.Nested
import HandS.TryMany
import HandS.Exc
import HandS.TupAny
import HandS.SortInts
import HandS.SetFor
import HandS.Strs
import HandS.Dict
import HandS.Gcd
import HandS.Style
set_option Elab.async false
set_option linter.all false
set_option maxRecDepth 100000
set_option maxHeartbeats 4000000
namespace Gd
open PySem PySem.Spec PyProof.Rows L2
/-! a def's promise where no repr is under way -/
/-- as FnOk, told of a caller with no guard -/
structure FnG (P : Program) (w : World) (K : PySem.W.Frag) (mg : Str → Option Value) (base : Heap) (CX : CXT) (k : Nat) (f : Addr) (fd : FuncData) (ps : List Str) (sp : Sp) : Prop where
  len : ∀ vs H Q E, sp vs H Q E → vs.length = ps.length
  run : ∀ (A : Around) (outer : List Env) (s : Shared) (H : Hp) (args : Args) (us : List Value) (vs : List V) (Q : VK) (E : XK), Room k A → A.guards = some [] → Env0 P w K mg base A outer s H → BindsTo s fd args (ps.zip us) → Vals vs us → sp vs H Q E →
    codeAny (model P w) A (.call (.ref f) args) (CR CX outer P w H s Q E) s
section
variable {P : Program} {w : World} {K : PySem.W.Frag} {mg : Str → Option Value} {base : Heap} {CX : CXT} {k j : Nat} {f : Addr} {fd : FuncData} {ps N : List Str} {sp sp' : Sp} {x qual : Str} {params : Arguments} {body : List Stmt} {scope : Scope} {dvs : List V} {kws : List (Str × V)}
theorem FnG.of (F : FnOk P w K mg base CX k f fd ps sp) : FnG P w K mg base CX k f fd ps sp := ⟨F.len, fun A o s H a us vs Q E hr _ => F.run A o s H a us vs Q E hr⟩
theorem FnG.mono (F : FnG P w K mg base CX j f fd ps sp) (h : j ≤ k) : FnG P w K mg base CX k f fd ps sp := ⟨F.len, fun A o s H a us vs Q E hr => F.run A o s H a us vs Q E (hr.mono h)⟩
theorem FnG.imp (F : FnG P w K mg base CX k f fd ps sp) (h : ∀ vs H Q E, sp' vs H Q E → sp vs H Q E) : FnG P w K mg base CX k f fd ps sp' :=
  ⟨fun vs H Q E q => F.len vs H Q E (h _ _ _ _ q), fun A o s H a us vs Q E hr hg he hb hv hs => F.run A o s H a us vs Q E hr hg he hb hv (h _ _ _ _ hs)⟩
/-- by the body -/
theorem fnG_of (F : FunD K x qual params body scope dvs kws f fd) (S : FnScope N ps scope) (len : ∀ vs H Q E, sp vs H Q E → vs.length = ps.length)
    (hbody : ∀ (cdv : Value) (A : Around) (outer : List Env) (s : Shared) (H : Hp) (vs : List V) (Q : VK) (E : XK), Room k (A.deeper (envOfC qual scope s.heap.objs.size f cdv)) → A.guards = some [] → sp vs H Q E →
      ∃ t, PSs (cxOf CX P w K mg base N qual scope f cdv A outer s H E) body t ∧ t { nx := fun _ H' => Q .non H', rt := Q } (start N vs) H) : FnG P w K mg base CX (k + 1) f fd ps sp := by
  obtain ⟨oc, od, dV, kV, doc, pm, an, cdv, ct, osl, rfl, lk, hcd, _, _⟩ := F.ex
  exact ⟨len, fun A outer s H args us vs Q E hr hg e0 hb hv hs => LamX.run_ofS lk hcd S hr e0 hb hv (len _ _ _ _ hs) fun hr' => hbody cdv A outer s H vs Q E hr' hg hs⟩
end
section
variable {X : Cx} {CX : CXT} {k n : Nat} {f C : Addr} {fd : FuncData} {ps ks : List Str} {sp : Sp} {dvs : List V} {ds : List Value} {E : XK} {x : Str} {p pos : Pos} {e : Expr} {es : List Expr} {t : TA}
theorem run_fnG {pins : List (Addr × Obj)} {σ : L2.St} {H : Hp} {s : Shared} {Q : VK} {us : List Value} {vs : List V} (F : FnG X.prog X.w X.K X.mg X.base CX k f fd ps sp) (hr : Room k X.A) (hG : X.A.guards = some []) (hb : Binds X.K fd ps ds) (hd : Vals dvs ds) (hx : Passes CX X E)
    (I : Inv X pins σ H s) (r : Vals vs us) (h : sp (vs ++ dvs) H Q E) : wpAny (model X.prog X.w) X.A (call (.ref f) us) (EP X pins σ Q) X.xe s := by
  have r2 : Vals (vs ++ dvs) (us ++ ds) := r.append hd
  have hl : (us ++ ds).length = ps.length := r2.length.symm.trans (F.len _ _ _ _ h)
  refine wpAny_call (codeAny_mono (F.run X.A X.stack s H ⟨us, []⟩ (us ++ ds) (vs ++ dvs) Q E hr hG I.env0 (hb s us I.kIn hl) r2 h) fun r s' hq => ?_)
  match r, hq with
  | .error e, hq => exact hx pins σ H s e s' I hq
  | .ok (.ret u), hq => exact I.after hq
theorem pe_callG (F : FnG X.prog X.w X.K X.mg X.base CX k f fd ps sp) (hr : Room k X.A) (hG : X.A.guards = some []) (hg : Gl X x) (hm : X.mg x = some (.ref f)) (hk : PySem.W.keepIn X.K (.ref f) = true) (hb : Binds X.K fd ps ds) (hd : Vals dvs ds) (hx : Passes CX X E)
    (ha : PA X (e :: es) t) (hdb : (x == ("__debug__" : Str)) = false := by decide) (he : starEach (e :: es) X.env = (false, eval e X.env) :: starEach es X.env := by rfl) (hpl : (backTo pos (starEach es X.env)).any (·.1) = false := by rfl) :
    PE X (.Call (.Name x p) (e :: es) [] pos) (tCall sp dvs E t) := by
  refine ⟨fun pins s σ H Q I h => wpAny_Call_Name_kw (ld_glob I hg hm ?_ hdb)⟩
  exact PySem.W.callWith_K (h₀ := X.base) I.ok.mod.kin hk (thn (ha.run pos pins s σ H _ I h) fun us s1 ⟨vs, H1, I1, r, q⟩ => ⟨I1.kIn, run_fnG F hr hG hb hd hx I1 r q⟩) he hpl
end
/-! the law's call -/
theorem law_callG {P : Program} {w : World} {K : PySem.W.Frag} {mg mb : Str → Option Value} {CX : CXT} {k : Nat} {fa a : Addr} {fd : FuncData} {x : Str} {sp : Sp} {s₁ : Shared} {vs : List Value} {ns : List Int}
    (KX : K.In s₁.heap) (hns : s₁.heap.Ns mainGlobals mg) (hb : s₁.heap.Ns builtinsNs mb) (hbb : ∀ x : Str, x ≠ "__name__" → mb x = bootBuiltins x) (hlim : s₁.heap.NoLimit) (hg : s₁.gens = #[])
    (ha : s₁.heap.get? a = some { cls := .type "list", data := .seq vs.toArray }) (hi : IntsAre vs ns) (hl : ns.length ≤ sizeLine) (hr : Room k callerA)
    (F : ∀ base : Heap, K.In base → base.Ns mainGlobals mg → FnG P w K mg base CX k fa fd [x] sp) (hbind : ∀ (s : Shared) (u : Value), BindsTo s fd ⟨[u], []⟩ [(x, u)])
    (hsp : ∀ H : Hp, Only H → SqL K H a (ns.map V.int) → sp [.ref a] H (fun v _ => v = .bl true) fun _ _ _ => False)
    (hCX : ∀ H e s', CX [] H s₁ (fun _ _ _ => False) e s' → False) :
    codeAny (model P w) callerA (.call (.ref fa) ⟨[.ref a], []⟩) (fun r s' => r = .ok (.ret (.bool true)) ∧ OldK s₁.heap s'.heap ∧ s'.os = s₁.os ∧ AllBare s'.gens) s₁ := by
  have rv := vals_ints hi
  have sz : (ns.map V.int).length ≤ sizeLine := by rw [List.length_map]; exact hl
  -- where the script stands
  obtain ⟨H, hO, hS, hok, hA, hK⟩ : ∃ H : Hp, Only H ∧ SqL K H a (ns.map V.int) ∧ HOk P w H s₁.heap ∧ (∀ b, H b ≠ none → b = a) ∧ (H a ≠ none → K.lookup a = none) := by
    cases hk : K.lookup a with
    | some o =>
      have e := KX a o hk
      rw [ha] at e
      cases e
      exact ⟨fun _ => none, fun _ => .inl rfl, (.inr ⟨_, vs.toArray, _, hk, rfl, rfl, rfl, by rw [List.size_toArray, hi.length]; exact hl, by simpa using rv⟩ : SqL K (fun _ => none) a (ns.map V.int)), (fun b u z => nomatch (show (none : Option HO) = some u from z)), fun b z => absurd rfl z, fun z => absurd rfl z⟩
    | none =>
      refine ⟨fun b => if b = a then some (.frz { cls := .type "list", data := .seq vs.toArray } (.lst (ns.map V.int))) else none, fun b => ?_, .inl (.inr ⟨_, if_pos rfl⟩), fun b u z => ?_, fun b z => ?_, fun _ => rfl⟩
      · by_cases hb : b = a
        · exact .inr ⟨_, _, if_pos hb⟩
        · exact .inl (if_neg hb)
      · by_cases hb : b = a
        · have z' := (if_pos hb).symm.trans z
          cases z'
          subst hb
          exact ⟨ha, sz, vs, _, rv, ha⟩
        · have z' := (if_neg hb).symm.trans z
          cases z'
      · by_cases hb : b = a
        · exact hb
        · exact absurd (if_neg hb) z
  have only : ∀ {b : Addr}, H b ≠ none → s₁.heap.get? b = some { cls := .type "list", data := .seq vs.toArray } ∧ K.lookup b = none := fun {b} q => by
    have e := hA b q
    subst e
    exact ⟨ha, hK q⟩
  have noD : ∀ {b : Addr} {o : Obj} {es : Array DictEntry} {ep : Nat}, s₁.heap.get? b = some o → o.data = .dict es ep → H b = none := fun {b o es ep} e d => by
    cases q : H b with
    | none => rfl
    | some u =>
      have e2 := (only (b := b) (by rw [q]; exact fun z => nomatch z)).1
      rw [e] at e2
      cases e2
      cases d
  have nsK : ∀ {b : Addr} {m : Str → Option Value}, s₁.heap.Ns b m → (hidT s₁.heap H).Ns b m := fun {b m} ⟨o, es, ep, e, d, r⟩ => ⟨o, es, ep, hidT_get e (noD e d), d, r⟩
  have hKb : K.In (hidT s₁.heap H) := fun b o e => hidT_get (KX b o e) (by
    cases q : H b with
    | none => rfl
    | some u =>
      have e2 := (only (b := b) (by rw [q]; exact fun z => nomatch z)).2
      rw [e] at e2
      cases e2)
  have hM : Mod K mg (hidT s₁.heap H) := ⟨hKb, nsK hns, ⟨mb, nsK hb, hbb⟩, let ⟨mc, h1, h2⟩ := hlim; ⟨mc, nsK h1, h2⟩⟩
  have nil : ∀ b : Addr, b ∉ frs ([] : List Env) := fun b z => absurd (show b ∈ ([] : List Addr) from z) (by simp)
  have e0 : Env0 P w K mg (hidT s₁.heap H) callerA [] s₁ H := ⟨rfl, hM, fun b o e => of_hidT e, Nat.le_of_eq (hidT_size _ _), trivial, fun b hb => absurd hb (nil b), hok, .of_eq hg⟩
  refine codeAny_mono ((F _ hKb (nsK hns)).run callerA [] s₁ H ⟨[.ref a], []⟩ [.ref a] [.ref a] _ _ hr rfl e0 (hbind s₁ (.ref a)) (.cons rfl .nil) (hsp H hO hS)) fun r s' h => ?_
  match r, h with
  | .error e, h => exact (hCX H e s' h).elim
  | .ok (.ret u), ⟨v, H', os, bare, un, hok', r', q⟩ =>
    have q' : v = .bl true := q
    subst q'
    obtain rfl : u = Value.bool true := r'
    refine ⟨rfl, OldK.of_keep fun b o e => ?_, os, bare⟩
    cases q : H b with
    | none => exact un.keep b o e q (nil b) (by simp)
    | some u =>
      rcases hO b with z | ⟨ob, xs, z⟩
      · rw [q] at z; cases z
      · obtain ⟨e1, _⟩ := hok b _ z
        obtain ⟨e2, _⟩ := hok' b _ (un.frzs b ob _ z)
        rw [e] at e1; cases e1
        exact e2
/-- the end of a law's row: F gives the written part, the def's object, its promise -/
theorem walk_ofG {l : PySem.W.OpenLaw} {n k : Nat} {q : Program} {loose : List Str} {XP : (Str → Option Value) → Heap → Prop} {YP : World → Heap → Prop} {d : DefRec} {CX : CXT} {x : Str}
    (hn : l.most = some n) (hn2 : n ≤ sizeLine) (hdf : d.params.defaults = []) (hr : Room k callerA)
    (F : ∀ (w : World) (mg : Str → Option Value) (fa : Addr) (h : Heap), YP w h → h.Ns mainGlobals mg → mg d.name = some (.ref fa) →
      ∃ (K : PySem.W.Frag) (fd : FuncData) (sp : Sp), K.In h ∧ (∀ (s : Shared) (u : Value), BindsTo s fd ⟨[u], []⟩ [(x, u)]) ∧
        (∀ (H : Hp) (a : Addr) (ns : List Int), ns.length ≤ n → Only H → SqL K H a (ns.map V.int) → sp [.ref a] H (fun v _ => v = .bl true) fun _ _ _ => False) ∧
        ∀ base : Heap, K.In base → base.Ns mainGlobals mg → FnG l.prog w K mg base CX k fa fd [x] sp)
    (hCX : ∀ (H : Hp) (s : Shared) (e : Value) (s' : Shared), CX [] H s (fun _ _ _ => False) e s' → False) :
    PySem.W.WalkO q loose XP YP l.row.toRowW d [] (fun f vs => PySem.call f vs) := by
  refine Att.attach_call hn hdf fun w s₀ s₁ mg mb fa o pm cd doc a vs ns G Y ho hd hcd hmg hobj hints hlen hg => ?_
  obtain ⟨K, fd, sp, KX, hb, hsp, hF⟩ := F w mg fa _ Y G.T.g hmg
  exact law_callG KX G.T.g G.T.b G.T.builtins G.T.nolimit hg hobj hints (Nat.le_trans hlen hn2) hr hF hb (fun H hO hS => hsp H a ns hlen hO hS) fun H e s' => hCX H s₁ e s'
end Gd
/-! the law's call where the law's code objects have tables and no repr is under way -/
namespace Gd
open PySem PySem.Spec PyProof.Rows L2
/-- code objects and their tables, at a heap -/
structure TabsAt (hp : Heap) (K : PySem.W.Frag) (cs : List (Addr × Addr)) : Prop where
  raw : ∀ p ∈ cs, hp.get? p.2 = some { cls := .none, data := .fields #[] }
  free : ∀ p ∈ cs, K.lookup p.2 = none
  code : ∀ p ∈ cs, PySem.W.CodeHd hp p.1 p.2
def BltMod (hp : Heap) (mg : Str → Option Value) : Prop := ∃ (bm : Addr) (ob : Obj), mg "__builtins__" = some (.ref bm) ∧ bm ≠ builtinsNs ∧ hp.get? bm = some ob ∧ ob.cls = .type "module" ∧ ob.dict = some builtinsNs ∧ ob.data = .plain
/-- what of the law's call is wished -/
def LawEnd (st : Shared) : Result → Shared → Prop := fun r z => r = .ok (.ret (.bool true)) ∧ OldK st.heap z.heap ∧ z.os = st.os ∧ AllBare z.gens
/-- where the script stands, where the tables stand -/
theorem told {hp : Heap} {K : PySem.W.Frag} {cs : List (Addr × Addr)} {a : Addr} {us : List Value} {ns : List Int} {P : Program} {w : World} (inK : K.In hp) (tb : TabsAt hp K cs) (ata : hp.get? a = some { cls := .type "list", data := .seq us.toArray }) (iar : IntsAre us ns) (small : ns.length ≤ sizeLine) :
    ∃ H : Hp, (∀ b u, H b = some u → (b ∈ cs.map Prod.snd ∧ u = .tbl #[]) ∨ (b = a ∧ K.lookup a = none ∧ u = .frz { cls := .type "list", data := .seq us.toArray } (.lst (ns.map V.int)))) ∧ (∀ p ∈ cs, H p.2 = some (.tbl #[])) ∧ SqL K H a (ns.map V.int) ∧ HOk P w H hp := by
  have rv := vals_ints iar
  have sz : (ns.map V.int).length ≤ sizeLine := by rw [List.length_map]; exact small
  have na : a ∉ cs.map Prod.snd := fun z => by
    obtain ⟨p, hpm, e⟩ := List.mem_map.mp z
    have q := tb.raw p hpm
    rw [e, ata] at q
    exact nomatch (congrArg Obj.data (Option.some.inj q) : Data.seq us.toArray _ = Data.fields #[])
  have rawT : ∀ b, b ∈ cs.map Prod.snd → hp.get? b = some { cls := .none, data := .fields #[] } := fun b z => by
    obtain ⟨p, hpm, e⟩ := List.mem_map.mp z
    exact e ▸ tb.raw p hpm
  cases look : K.lookup a with
  | some o =>
    have eo := inK a o look
    rw [ata] at eo
    cases eo
    refine ⟨fun b => if b ∈ cs.map Prod.snd then some (.tbl #[]) else none, fun b u z => ?_, fun p hpm => if_pos (List.mem_map_of_mem hpm), .inr ⟨_, us.toArray, _, look, rfl, rfl, rfl, ?_, by simpa using rv⟩, fun b u z => ?_⟩
    · by_cases m : b ∈ cs.map Prod.snd
      · exact .inl ⟨m, (Option.some.inj ((if_pos m).symm.trans z)).symm⟩
      · exact nomatch (if_neg m).symm.trans z
    · rw [List.size_toArray, iar.length]; exact small
    · by_cases m : b ∈ cs.map Prod.snd
      · cases (if_pos m).symm.trans z
        exact rawT b m
      · exact nomatch (if_neg m).symm.trans z
  | none =>
    refine ⟨fun b => if b ∈ cs.map Prod.snd then some (.tbl #[]) else if b = a then some (.frz { cls := .type "list", data := .seq us.toArray } (.lst (ns.map V.int))) else none, fun b u z => ?_, fun p hpm => if_pos (List.mem_map_of_mem hpm), .inl (.inr ⟨{ cls := .type "list", data := .seq us.toArray }, (if_neg na).trans (if_pos rfl)⟩), fun b u z => ?_⟩
    · by_cases m : b ∈ cs.map Prod.snd
      · exact .inl ⟨m, (Option.some.inj ((if_pos m).symm.trans z)).symm⟩
      · have z := (if_neg m).symm.trans z
        by_cases e : b = a
        · exact .inr ⟨e, rfl, (Option.some.inj ((if_pos e).symm.trans z)).symm⟩
        · exact nomatch (if_neg e).symm.trans z
    · by_cases m : b ∈ cs.map Prod.snd
      · cases (if_pos m).symm.trans z
        exact rawT b m
      · have z := (if_neg m).symm.trans z
        by_cases e : b = a
        · cases (if_pos e).symm.trans z
          subst e
          exact ⟨ata, sz, us, _, rv, ata⟩
        · exact nomatch (if_neg e).symm.trans z
/-- the law's call -/
theorem law_callTG {P : Program} {w : World} {K : PySem.W.Frag} {mg mb : Str → Option Value} {CX : CXT} {k : Nat} {fa a : Addr} {cs : List (Addr × Addr)} {fd : FuncData} {x : Str} {sp : Sp} {st : Shared} {us : List Value} {ns : List Int}
    (inK : K.In st.heap) (gn : st.heap.Ns mainGlobals mg) (bn : st.heap.Ns builtinsNs mb) (bbn : ∀ x : Str, x ≠ "__name__" → mb x = bootBuiltins x) (nolim : st.heap.NoLimit) (nog : st.gens = #[]) (tb : TabsAt st.heap K cs) (bm : BltMod st.heap mg)
    (ata : st.heap.get? a = some { cls := .type "list", data := .seq us.toArray }) (iar : IntsAre us ns) (small : ns.length ≤ sizeLine) (hr : Room k callerA)
    (F : ∀ base : Heap, K.In base → base.Ns mainGlobals mg → (∀ p ∈ cs, LamX.TabB base mg p.1 p.2) → FnG P w K mg base CX k fa fd [x] sp) (bind : ∀ (s : Shared) (u : Value), BindsTo s fd ⟨[u], []⟩ [(x, u)])
    (wish : ∀ H : Hp, (∀ p ∈ cs, H p.2 = some (.tbl #[])) → SqL K H a (ns.map V.int) → sp [.ref a] H (fun v _ => v = .bl true) fun _ _ _ => False) (noex : ∀ H e z, CX [] H st (fun _ _ _ => False) e z → False) :
    codeAny (model P w) callerA (.call (.ref fa) ⟨[.ref a], []⟩) (LawEnd st) st := by
  obtain ⟨H, src, hT, hS, hok⟩ := told (P := P) (w := w) inK tb ata iar small
  -- nothing but lists and empty tables is told
  have out : ∀ {b : Addr} {o : Obj}, st.heap.get? b = some o → (∀ r n, o.data ≠ .seq r n) → o.data ≠ .fields #[] → H b = none := fun {b o} e n1 n2 => by
    cases q : H b with
    | none => rfl
    | some u =>
      rcases src b u q with ⟨m, _⟩ | ⟨rfl, _⟩
      · obtain ⟨p, hpm, rfl⟩ := List.mem_map.mp m
        rw [tb.raw p hpm] at e
        cases e
        exact absurd rfl n2
      · rw [ata] at e
        cases e
        exact absurd rfl (n1 _ _)
  have keepNs : ∀ {b : Addr} {m : Str → Option Value}, st.heap.Ns b m → (hidT st.heap H).Ns b m := fun ⟨o, es, ep, e, d, r⟩ => ⟨o, es, ep, hidT_get e (out e (fun _ _ z => by rw [d] at z; cases z) fun z => by rw [d] at z; cases z), d, r⟩
  have baseK : K.In (hidT st.heap H) := fun b o e => hidT_get (inK b o e) (by
    cases q : H b with
    | none => rfl
    | some u =>
      rcases src b u q with ⟨m, _⟩ | ⟨rfl, n, _⟩
      · obtain ⟨p, hpm, rfl⟩ := List.mem_map.mp m
        rw [tb.free p hpm] at e
        cases e
      · rw [n] at e
        cases e)
  have modOk : L2.Mod K mg (hidT st.heap H) := ⟨baseK, keepNs gn, ⟨mb, keepNs bn, bbn⟩, let ⟨mc, h1, h2⟩ := nolim; ⟨mc, keepNs h1, h2⟩⟩
  have tabB : ∀ p ∈ cs, LamX.TabB (hidT st.heap H) mg p.1 p.2 := fun p hpm => by
    have raw := tb.raw p hpm
    refine ⟨?_, ?_, fun z => ?_⟩
    · obtain ⟨o, vs, file, tf, flags, tg, inF, text, tt, e1, r1, r2, r3, rest⟩ := tb.code p hpm
      exact ⟨o, vs, file, tf, flags, tg, inF, text, tt, hidT_get e1 (out e1 (fun _ _ z => by rw [r2] at z; cases z) fun z => by rw [r2] at z; cases z; simp at r3), r1, r2, r3, rest⟩
    · obtain ⟨m, ob, b1, b2, b3, b4, b5, b6⟩ := bm
      refine ⟨m, ob, b1, b2, fun q => ?_, fun q => ?_, hidT_get b3 (out b3 (fun _ _ z => by rw [b6] at z; cases z) fun z => by rw [b6] at z; cases z), b4, b5, b6⟩
      · obtain ⟨o, es, ep, e, d, _⟩ := gn
        rw [q, e] at b3
        cases b3
        rw [d] at b6
        cases b6
      · rw [q, raw] at b3
        cases b3
        cases b6
    · obtain ⟨o, es, ep, e, d, _⟩ := gn
      rw [z, raw] at e
      cases e
      cases d
  have noFr : ∀ b : Addr, b ∉ frs ([] : List Env) := fun b z => absurd (show b ∈ ([] : List Addr) from z) (by simp)
  have e0 : Env0 P w K mg (hidT st.heap H) callerA [] st H := ⟨rfl, modOk, fun b o e => of_hidT e, Nat.le_of_eq (hidT_size _ _), trivial, fun b z => absurd z (noFr b), hok, .of_eq nog⟩
  refine codeAny_mono ((F _ baseK (keepNs gn) tabB).run callerA [] st H ⟨[.ref a], []⟩ [.ref a] [.ref a] _ _ hr rfl e0 (bind st (.ref a)) (.cons rfl .nil) (wish H hT hS)) fun r z h => ?_
  match r, h with
  | .error e, h => exact (noex H e z h).elim
  | .ok (.ret u), ⟨v, H', os, bare, un, hok', r', q⟩ =>
    obtain rfl : v = .bl true := q
    obtain rfl : u = Value.bool true := r'
    have stay : ∀ b o, b ∉ cs.map Prod.snd → st.heap.get? b = some o → z.heap.get? b = some o := fun b o nb e => by
      cases q : H b with
      | none => exact un.keep b o e q (noFr b) (by simp)
      | some u =>
        rcases src b u q with ⟨m, _⟩ | ⟨rfl, _, rfl⟩
        · exact absurd m nb
        · obtain ⟨e1, _⟩ := hok b _ q
          rw [e] at e1
          cases e1
          exact (hok' b _ (un.frzs b _ _ q)).1
    have more : ∀ p ∈ cs, ∃ vs : Array Value, z.heap.get? p.2 = some { cls := .none, data := .fields vs } := fun p hpm => by
      obtain ⟨vs, e⟩ := un.tbls p.2 #[] (hT p hpm)
      exact ⟨_, hok' p.2 _ e⟩
    refine ⟨rfl, ⟨fun b o e => ?_, fun b o e => ?_⟩, os, bare⟩
    · by_cases m : b ∈ cs.map Prod.snd
      · obtain ⟨p, hpm, rfl⟩ := List.mem_map.mp m
        obtain ⟨vs, hv⟩ := more p hpm
        rw [tb.raw p hpm] at e
        cases e
        exact .inr (.inl ⟨((tb.code p hpm).tab (tb.raw p hpm)).isCodeTable, rfl, #[], vs, rfl, by rw [Array.empty_append]; exact hv⟩)
      · exact .inl (stay b o m e)
    · by_cases m : b ∈ cs.map Prod.snd
      · obtain ⟨p, hpm, rfl⟩ := List.mem_map.mp m
        obtain ⟨vs, hv⟩ := more p hpm
        exact ⟨_, hv⟩
      · exact ⟨o, stay b o m e⟩
/-- the row's end -/
theorem walk_ofTG {l : PySem.W.OpenLaw} {n k : Nat} {q : Program} {loose : List Str} {XP : (Str → Option Value) → Heap → Prop} {YP : World → Heap → Prop} {d : DefRec} {CX : World → CXT} {x : Str}
    (hn : l.most = some n) (hn2 : n ≤ sizeLine) (nodef : d.params.defaults = []) (hr : Room k callerA)
    (F : ∀ (w : World) (mg : Str → Option Value) (fa : Addr) (hp : Heap), YP w hp → hp.Ns mainGlobals mg → mg d.name = some (.ref fa) →
      ∃ (K : PySem.W.Frag) (fd : FuncData) (cs : List (Addr × Addr)) (sp : Sp), K.In hp ∧ TabsAt hp K cs ∧ (∀ (s : Shared) (u : Value), BindsTo s fd ⟨[u], []⟩ [(x, u)]) ∧
        (∀ (H : Hp) (a : Addr) (ns : List Int), ns.length ≤ n → (∀ p ∈ cs, H p.2 = some (.tbl #[])) → SqL K H a (ns.map V.int) → sp [.ref a] H (fun v _ => v = .bl true) fun _ _ _ => False) ∧
        ∀ base : Heap, K.In base → base.Ns mainGlobals mg → (∀ p ∈ cs, LamX.TabB base mg p.1 p.2) → FnG l.prog w K mg base (CX w) k fa fd [x] sp)
    (noex : ∀ (w : World) (H : Hp) (s : Shared) (e : Value) (z : Shared), CX w [] H s (fun _ _ _ => False) e z → False) : PySem.W.WalkO q loose XP YP l.row.toRowW d [] (fun f vs => PySem.call f vs) := by
  refine Att.attach_call hn nodef fun w s₀ st mg mb fa o pm cd doc a us ns G Y ho hd hcd hmg ata iar hlen nog => ?_
  obtain ⟨K, fd, cs, sp, inK, tb, bind, wish, run⟩ := F w mg fa _ Y G.T.g hmg
  exact law_callTG inK G.T.g G.T.b G.T.builtins G.T.nolimit nog tb G.T.bmain ata iar (Nat.le_trans hlen hn2) hr run bind (fun H hT hS => wish H a ns hlen hT hS) fun H e z => noex w H st e z
end Gd
/-! the head of a law: what is told, without proofs of what follows (so that a head's run may stand first in a joined text) -/
namespace Hx
open PySem PySem.Spec PyProof.Rows L2 He
/-! ### what is told -/
structure SaysY (fa : List Fa) (fn : List DefD) (tf : List Defn) (ex : PySem.W.Frag → Bool) (hp : Heap) (K : PySem.W.Frag) : Prop where
  d : SaysD fa fn K
  ex : ex K = true
  hd : ∀ p ∈ tf, PySem.W.codeHdIn K (cT K p).1 (cT K p).2 = true
  out : ∀ p ∈ tf, K.lookup (cT K p).2 = none
  mt : ∀ p ∈ tf, hp.get? (cT K p).2 = some { cls := .none, data := .fields #[] }
abbrev AlY : Type := AlD × Bool
def frY (n : Nat) (g : Addr → Option Obj) : PySem.W.Frag := frT g (sysModules :: cStatics :: asD g n)
def obsY (n : Nat) (fa : List Fa) (fn : List DefD) (tf : List Defn) (ex : PySem.W.Frag → Bool) (g : Addr → Option Obj) : AlY := (obsD fa fn (frY n g), ex (frY n g) && tabsB g tf (frY n g))
theorem saysY_of {n : Nat} {fa : List Fa} {fn : List DefD} {tf : List Defn} {ex : PySem.W.Frag → Bool} {hp : Heap} (e : obsY n fa fn tf ex hp.get? = (valD fn, true)) : SaysY fa fn tf ex hp (frY n hp.get?) := by
  obtain ⟨e1, e2⟩ := Prod.mk.inj e
  obtain ⟨h1, h2⟩ := ba e2
  generalize hK : frY n hp.get? = K at e1 h1 h2
  have one : ∀ p ∈ tf, PySem.W.codeHdIn K (cT K p).1 (cT K p).2 = true ∧ ∃ o, hp.get? (cT K p).2 = some o ∧ emptyTab o = true := fun p hp' => by
    obtain ⟨h3, h4⟩ := ba (List.all_eq_true.mp h2 p hp')
    cases q : hp.get? (cT K p).2 with
    | none => rw [q] at h4; cases h4
    | some o => rw [q] at h4; exact ⟨h3, o, rfl, h4⟩
  refine ⟨e1, h1, fun p m => (one p m).1, fun p m => ?_, fun p m => ?_⟩
  · obtain ⟨_, o, q, z⟩ := one p m
    rw [← hK] at q ⊢
    exact frT_none q z
  · obtain ⟨_, o, q, z⟩ := one p m
    rw [q, emptyTab_eq z]
def hookY (n : Nat) (fa : List Fa) (fn : List DefD) (tf : List Defn) (ex : PySem.W.Frag → Bool) : PySem.W.Hook where
  α := AlY
  obs := fun s => obsY n fa fn tf ex s.heap.get?
  val := fun _ => (valD fn, true)
  says := fun _ hp => ∃ K : PySem.W.Frag, K.In hp ∧ SaysY fa fn tf ex hp K
  of := fun _ _ e => ⟨_, frT_in, saysY_of e⟩
  keeps := fun _ _ _ ⟨K, hK, c⟩ k => ⟨K, PySem.W.Frag.In.keeps hK k, c.d, c.ex, c.hd, c.out, fun p m => k _ _ (c.mt p m)⟩
theorem obsY_eq {n : Nat} {fa : List Fa} {fn : List DefD} {tf : List Defn} {ex : PySem.W.Frag → Bool} {g : Addr → Option Obj} {s : Shared} (h : ∀ a, g a = s.heap.get? a) : obsY n fa fn tf ex g = (hookY n fa fn tf ex).obs s := by
  have e : g = s.heap.get? := funext h
  rw [e] <;> rfl
def oexB (K : PySem.W.Frag) (C : Addr) : Bool := (match K.lookup C with
  | some ⟨.type "type", _, .cls cd, sl⟩ => (match cd.mro, sl.toList with
    | .ref C' :: bm, [_, _, _, _, some (.builtin n), _] => C' == C && (n == "ValueError.__new__" && (!cd.hasDel && (cd.hasDict && PySem.HandSPX.refsVE bm)))
    | _, _ => false)
  | _ => false) && (eqO (PySem.W.findIn K (.ref C) "__setattr__") (some (some (.builtin "object.__setattr__"))) && (decide (PySem.W.subIn K (.ref C) (.type "BaseException") = some true) && (decide (PySem.W.typeIn K (.ref C) = some (.type "type")) && PySem.W.keepIn K (.ref C))))
def baseB (K : PySem.W.Frag) (B : Addr) : Bool := PySem.W.readsIn K B (.type "type") && (eqO (PySem.W.specialIn K (.ref B) "__getattribute__") (some (some (.builtin "type.__getattribute__"))) && (match PySem.W.findCls K (.ref B) (.type "type") "__init__" with
  | some (.val v) => decide (v = .builtin "ValueError.__init__")
  | _ => false))
abbrev Row : Type := Str × Str × List Str
def errB (K : PySem.W.Frag) (x : Str) (fls : List Str) : Bool := oexB K (ga K x) && (eqO (PySem.W.findIn K (.ref (ga K x)) "__init__") (some (some (.ref (fAd K (x, some "__init__"))))) && (decide (PySem.W.typeIn K (.ref (fAd K (x, some "__init__"))) = some (.type "function")) && ((fls.all fun f => eqO (PySem.W.findIn K (.ref (ga K x)) f) (some none)) && xfB K (ga K x))))
def tagsK (K : PySem.W.Frag) (l : List Row) : Bool := l.all fun q => errB K q.2.1 q.2.2 && (decide (q.2.2.Nodup ∧ q.2.2.length < 1000) && l.all fun r => decide (PySem.W.exmOne K (.ref (ga K q.2.1)) (.ref (ga K r.2.1)) = some (decide (ga K q.2.1 = ga K r.2.1))) && (decide (q = r) || !decide (ga K q.2.1 = ga K r.2.1)))
def plainTs : List String := ["NoneType", "bool", "int", "str", "tuple", "list", "dict"]
def isKB (K : PySem.W.Frag) (C : Addr) : Bool := eqO (PySem.W.findIn K (.ref C) "__class__") (some (some (.builtin "object.__class__"))) && (eqO (PySem.W.specialIn K (.builtin "object.__class__") "__get__") (some (some (.builtin "getset_descriptor.__get__"))) && (decide (PySem.W.takesIn K (.builtin "object.__class__") = some true) && (decide (PySem.W.mroIn K C (.type "object") = some true) &&
  (((["int", "bool", "str", "tuple", "list", "dict"] : List String).all fun T => decide (PySem.W.kitOne K (.ref C) (.type T) = some false)) && (plainTs.all fun n => decide (PySem.W.kitOne K (.type n) (.ref C) = some false))))))
def mgB (K : PySem.W.Frag) (x : Str) (f : String) : Bool := eqO (PySem.W.nsIn K mainGlobals x) (some (some (.builtin f)))
end Hx
namespace K74h
open PySem PySem.Spec PyProof.Rows L2 He Hx
def top (i : Nat) : Stmt := PySem.Challenge.pw_webrooms_k74_maps_of_webs.main.body.getD i (.Pass ⟨0, 0, 0, 0⟩)
def ini (i : Nat) : Stmt := match top i with
  | .ClassDef _ _ _ b _ _ _ _ _ _ _ => b.getD 0 (.Pass ⟨0, 0, 0, 0⟩)
  | _ => .Pass ⟨0, 0, 0, 0⟩
def rows : List Hx.Row := [("lot", "BadLot", ["lot"]), ("number", "BadNumber", ["what", "number"]), ("row", "BadRow", ["row"]), ("table", "BadTable", ["table"]), ("web", "BadWeb", ["what", "value"]), ("many", "TooMany", ["what", "many", "limit"]), ("unlike", "Unlike", ["what"])]
def fa : List Fa := [.glo "is_whole", .glo "in_tuples", .glo "is_tuple_of", .glo "is_pair", .glo "lowest", .glo "told", .glo "is_item", .glo "item_of", .glo "is_web", .glo "web_from", .glo "need_field", .glo "is_row", .glo "told_row", .glo "loose_row", .glo "is_table", .glo "rooms_key", .glo "are_widths", .glo "loose_table", .glo "tie_from", .glo "need_rooms", .glo "web_by", .glo "web_of", .glo "is_end", .glo "is_way", .glo "is_web_map", .glo "way_from", .glo "behind_web_map", .glo "ends_over", .glo "is_cover_by", .glo "is_cover", .glo "_law_pen", .glo "_law_draw", .glo "_law_pick", .glo "_law_shuffled", .glo "_law_is_int", .glo "_law_gcd", .glo "_law_q", .glo "_law_number", .glo "_law_field", .glo "_law_item", .glo "_law_row", .glo "_law_table", .glo "_law_widths", .glo "_law_rooms", .glo "_law_fault", .glo "_law_are_due", .glo "_law_plain_web", .glo "_law_is_way", .glo "_law_upon", .glo "_law_web_by", .glo "_law_covers", .glo "_law_wrong", .glo "_law_case", .glo "_law_copies_hold", .glo "law", .free "isinstance", .free "int", .free "bool", .free "str", .free "len", .free "all", .free "any", .free "sum", .free "tuple", .free "list", .free "range", .free "enumerate", .free "zip", .free "min", .free "max", .free "abs", .free "sorted", .free "set", .free "repr", .free "dict", .glo "RoomError", .glo "BadLot", .glo "BadNumber", .glo "BadRow", .glo "BadTable", .glo "BadWeb", .glo "TooMany", .glo "Unlike", .int "MOST_PLACES_kinds" 8, .int "MOST_TIES_kinds" 12, .int "MOST_PLACES_rooms" 8, .int "MOST_WIDTH" 4, .int "MOST_ITEMS" 16, .int "MOST_TIES_rooms" 12, .glo "Rooms", .cls "Rooms", .mkr "Rooms", .noat "Rooms" "field", .noat "Rooms" "widths", .noat "Rooms" "ties", .glo "FIELDS"]
def fn : List DefD := [⟨("is_whole", none), "is_whole", "is_whole", defArgs (top 11), defBody (top 11), defScope (top 11), [], []⟩, ⟨("in_tuples", none), "in_tuples", "in_tuples", defArgs (top 12), defBody (top 12), defScope (top 12), [], []⟩, ⟨("is_tuple_of", none), "is_tuple_of", "is_tuple_of", defArgs (top 13), defBody (top 13), defScope (top 13), [], []⟩, ⟨("is_pair", none), "is_pair", "is_pair", defArgs (top 15), defBody (top 15), defScope (top 15), [], []⟩, ⟨("lowest", none), "lowest", "lowest", defArgs (top 16), defBody (top 16), defScope (top 16), [], []⟩, ⟨("told", none), "told", "told", defArgs (top 17), defBody (top 17), defScope (top 17), [], []⟩, ⟨("is_item", none), "is_item", "is_item", defArgs (top 20), defBody (top 20), defScope (top 20), [], []⟩, ⟨("item_of", none), "item_of", "item_of", defArgs (top 21), defBody (top 21), defScope (top 21), [], []⟩, ⟨("is_web", none), "is_web", "is_web", defArgs (top 25), defBody (top 25), defScope (top 25), [], []⟩, ⟨("web_from", none), "web_from", "web_from", defArgs (top 26), defBody (top 26), defScope (top 26), [], []⟩, ⟨("need_field", none), "need_field", "need_field", defArgs (top 28), defBody (top 28), defScope (top 28), [], []⟩, ⟨("is_row", none), "is_row", "is_row", defArgs (top 29), defBody (top 29), defScope (top 29), [], []⟩, ⟨("told_row", none), "told_row", "told_row", defArgs (top 30), defBody (top 30), defScope (top 30), [], []⟩, ⟨("loose_row", none), "loose_row", "loose_row", defArgs (top 31), defBody (top 31), defScope (top 31), [], []⟩, ⟨("is_table", none), "is_table", "is_table", defArgs (top 32), defBody (top 32), defScope (top 32), [], []⟩, ⟨("rooms_key", none), "rooms_key", "rooms_key", defArgs (top 39), defBody (top 39), defScope (top 39), [], []⟩, ⟨("are_widths", none), "are_widths", "are_widths", defArgs (top 40), defBody (top 40), defScope (top 40), [], []⟩, ⟨("loose_table", none), "loose_table", "loose_table", defArgs (top 41), defBody (top 41), defScope (top 41), [], []⟩, ⟨("tie_from", none), "tie_from", "tie_from", defArgs (top 42), defBody (top 42), defScope (top 42), [], []⟩, ⟨("need_rooms", none), "need_rooms", "need_rooms", defArgs (top 43), defBody (top 43), defScope (top 43), [], []⟩, ⟨("web_by", none), "web_by", "web_by", defArgs (top 45), defBody (top 45), defScope (top 45), [], []⟩, ⟨("web_of", none), "web_of", "web_of", defArgs (top 46), defBody (top 46), defScope (top 46), [], []⟩, ⟨("is_end", none), "is_end", "is_end", defArgs (top 47), defBody (top 47), defScope (top 47), [], []⟩, ⟨("is_way", none), "is_way", "is_way", defArgs (top 48), defBody (top 48), defScope (top 48), [], []⟩, ⟨("is_web_map", none), "is_web_map", "is_web_map", defArgs (top 49), defBody (top 49), defScope (top 49), [], []⟩, ⟨("way_from", none), "way_from", "way_from", defArgs (top 50), defBody (top 50), defScope (top 50), [], []⟩, ⟨("behind_web_map", none), "behind_web_map", "behind_web_map", defArgs (top 51), defBody (top 51), defScope (top 51), [], []⟩, ⟨("ends_over", none), "ends_over", "ends_over", defArgs (top 52), defBody (top 52), defScope (top 52), [], []⟩, ⟨("is_cover_by", none), "is_cover_by", "is_cover_by", defArgs (top 53), defBody (top 53), defScope (top 53), [], []⟩, ⟨("is_cover", none), "is_cover", "is_cover", defArgs (top 54), defBody (top 54), defScope (top 54), [], []⟩, ⟨("_law_pen", none), "_law_pen", "_law_pen", defArgs (top 56), defBody (top 56), defScope (top 56), [], []⟩, ⟨("_law_draw", none), "_law_draw", "_law_draw", defArgs (top 57), defBody (top 57), defScope (top 57), [], []⟩, ⟨("_law_pick", none), "_law_pick", "_law_pick", defArgs (top 58), defBody (top 58), defScope (top 58), [], []⟩, ⟨("_law_shuffled", none), "_law_shuffled", "_law_shuffled", defArgs (top 59), defBody (top 59), defScope (top 59), [], []⟩, ⟨("_law_is_int", none), "_law_is_int", "_law_is_int", defArgs (top 60), defBody (top 60), defScope (top 60), [], []⟩, ⟨("_law_gcd", none), "_law_gcd", "_law_gcd", defArgs (top 61), defBody (top 61), defScope (top 61), [], []⟩, ⟨("_law_q", none), "_law_q", "_law_q", defArgs (top 62), defBody (top 62), defScope (top 62), [], []⟩, ⟨("_law_number", none), "_law_number", "_law_number", defArgs (top 63), defBody (top 63), defScope (top 63), [], []⟩, ⟨("_law_field", none), "_law_field", "_law_field", defArgs (top 64), defBody (top 64), defScope (top 64), [], []⟩, ⟨("_law_item", none), "_law_item", "_law_item", defArgs (top 65), defBody (top 65), defScope (top 65), [], []⟩, ⟨("_law_row", none), "_law_row", "_law_row", defArgs (top 66), defBody (top 66), defScope (top 66), [], []⟩, ⟨("_law_table", none), "_law_table", "_law_table", defArgs (top 67), defBody (top 67), defScope (top 67), [], []⟩, ⟨("_law_widths", none), "_law_widths", "_law_widths", defArgs (top 68), defBody (top 68), defScope (top 68), [], []⟩, ⟨("_law_rooms", none), "_law_rooms", "_law_rooms", defArgs (top 69), defBody (top 69), defScope (top 69), [], []⟩, ⟨("_law_fault", none), "_law_fault", "_law_fault", defArgs (top 70), defBody (top 70), defScope (top 70), [], []⟩, ⟨("_law_are_due", none), "_law_are_due", "_law_are_due", defArgs (top 71), defBody (top 71), defScope (top 71), [], []⟩, ⟨("_law_plain_web", none), "_law_plain_web", "_law_plain_web", defArgs (top 72), defBody (top 72), defScope (top 72), [], []⟩, ⟨("_law_is_way", none), "_law_is_way", "_law_is_way", defArgs (top 73), defBody (top 73), defScope (top 73), [], []⟩, ⟨("_law_upon", none), "_law_upon", "_law_upon", defArgs (top 74), defBody (top 74), defScope (top 74), [], []⟩, ⟨("_law_web_by", none), "_law_web_by", "_law_web_by", defArgs (top 75), defBody (top 75), defScope (top 75), [], []⟩, ⟨("_law_covers", none), "_law_covers", "_law_covers", defArgs (top 76), defBody (top 76), defScope (top 76), [], []⟩, ⟨("_law_wrong", none), "_law_wrong", "_law_wrong", defArgs (top 77), defBody (top 77), defScope (top 77), [], []⟩, ⟨("_law_case", none), "_law_case", "_law_case", defArgs (top 78), defBody (top 78), defScope (top 78), [], []⟩, ⟨("_law_copies_hold", none), "_law_copies_hold", "_law_copies_hold", defArgs (top 79), defBody (top 79), defScope (top 79), [], []⟩, ⟨("law", none), "law", "law", defArgs (top 80), defBody (top 80), defScope (top 80), [], []⟩, ⟨("BadLot", some "__init__"), "__init__", "BadLot.__init__", defArgs (ini 7), defBody (ini 7), defScope (ini 7), [], []⟩, ⟨("BadNumber", some "__init__"), "__init__", "BadNumber.__init__", defArgs (ini 3), defBody (ini 3), defScope (ini 3), [], []⟩, ⟨("BadRow", some "__init__"), "__init__", "BadRow.__init__", defArgs (ini 5), defBody (ini 5), defScope (ini 5), [], []⟩, ⟨("BadTable", some "__init__"), "__init__", "BadTable.__init__", defArgs (ini 6), defBody (ini 6), defScope (ini 6), [], []⟩, ⟨("BadWeb", some "__init__"), "__init__", "BadWeb.__init__", defArgs (ini 4), defBody (ini 4), defScope (ini 4), [], []⟩, ⟨("TooMany", some "__init__"), "__init__", "TooMany.__init__", defArgs (ini 9), defBody (ini 9), defScope (ini 9), [], []⟩, ⟨("Unlike", some "__init__"), "__init__", "Unlike.__init__", defArgs (ini 8), defBody (ini 8), defScope (ini 8), [], []⟩, ⟨("Rooms", some "__init__"), "__init__", "Rooms.__init__", defArgs (ini 38), defBody (ini 38), defScope (ini 38), [], []⟩]
def tf : List Defn := [("law", none)]
def exB (K : PySem.W.Frag) : Bool := (K.lookup sysModules).isSome && (baseB K (ga K "RoomError") && (tagsK K rows && (decide ((tf.map fun p => (cT K p).2).Nodup) && (isKB K (ga K "Rooms") && (mgB K "gcd" "math.gcd" && (tupB K "FIELDS" (([0, 2, 3, 5, 7] : List Int).map Dv.int)))))))
abbrev hk : PySem.W.Hook := hookY 5 fa fn tf exB
def ob (s : PySem.W.SharedT) : AlY := obsY 5 fa fn tf exB (HandSHeadRun.getT s)
theorem ob_eq (s : PySem.W.SharedT) : ob s = hk.obs s.abs := obsY_eq (HandSHeadRun.getT_eq s)
abbrev R : PySem.W.OpenRow := PySem.W.OpenLaw.row PySem.Challenge.rw_webrooms_k74_maps_of_webs
def loose : List Str := [("__name__" : Str), ("RoomError" : Str), ("BadNumber" : Str), ("BadWeb" : Str), ("BadRow" : Str), ("BadTable" : Str), ("BadLot" : Str), ("Unlike" : Str), ("TooMany" : Str), ("is_whole" : Str), ("in_tuples" : Str), ("is_tuple_of" : Str), ("is_pair" : Str), ("lowest" : Str), ("told" : Str), ("FIELDS" : Str), ("is_item" : Str), ("item_of" : Str), ("MOST_PLACES_kinds" : Str), ("MOST_TIES_kinds" : Str), ("is_web" : Str), ("web_from" : Str), ("need_field" : Str), ("is_row" : Str), ("told_row" : Str), ("loose_row" : Str), ("is_table" : Str), ("MOST_PLACES_rooms" : Str), ("MOST_WIDTH" : Str), ("MOST_ITEMS" : Str), ("MOST_TIES_rooms" : Str), ("Rooms" : Str), ("rooms_key" : Str), ("are_widths" : Str), ("loose_table" : Str), ("tie_from" : Str), ("need_rooms" : Str), ("web_by" : Str), ("web_of" : Str), ("is_end" : Str), ("is_way" : Str), ("is_web_map" : Str), ("way_from" : Str), ("behind_web_map" : Str), ("ends_over" : Str), ("is_cover_by" : Str), ("is_cover" : Str), ("_law_pen" : Str), ("_law_draw" : Str), ("_law_pick" : Str), ("_law_shuffled" : Str), ("_law_is_int" : Str), ("_law_gcd" : Str), ("_law_q" : Str), ("_law_number" : Str), ("_law_field" : Str), ("_law_item" : Str), ("_law_row" : Str), ("_law_table" : Str), ("_law_widths" : Str), ("_law_rooms" : Str), ("_law_fault" : Str), ("_law_are_due" : Str), ("_law_plain_web" : Str), ("_law_is_way" : Str), ("_law_upon" : Str), ("_law_web_by" : Str), ("_law_covers" : Str), ("_law_wrong" : Str), ("_law_case" : Str), ("_law_copies_hold" : Str)]
theorem run (w : World) : HandSHeadRun.RunEqI R (PySem.W.view R.prog [0, 80]) hk ob 60000 loose w := by
  unfold HandSHeadRun.RunEqI
  kernel_rfl
end K74h
/-! functions as data -/
namespace Clo
open PySem PySem.Spec PyProof.Rows L2
/-- a lambda without parameters: its words, its cells -/
structure CloD where
  qual : Str
  params : Arguments
  body : Expr
  scope : Scope
  cl : List (Str × Addr)
/-- the object at f is that function, its code object at c' -/
def LamO (f c' : Addr) (d : CloD) : HO := .ext fun h => ∃ (pm ctv : Value), h.get? f = some (PySem.W.kla_obj "<lambda>" d.qual d.params d.body d.scope d.cl pm c' ctv)
/-- f is that function -/
def LamAt (H : Hp) (f : Addr) (d : CloD) : Prop := ∃ c', H f = some (LamO f c' d) ∧ H c' = some (LamX.CodeO c' d.qual)
theorem LamAt.mono {H H' : Hp} {f : Addr} {d : CloD} (e : ∀ b o, H b = some o → H' b = some o) (h : LamAt H f d) : LamAt H' f d := by
  obtain ⟨c', a, b⟩ := h
  exact ⟨c', e _ _ a, e _ _ b⟩
/-- at c: just this object -/
def PinO (c : Addr) (o : Obj) : HO := .ext fun h => h.get? c = some o
/-- the names that a lambda takes from where it was made -/
def frees (d : CloD) : List Str := d.scope.names.filterMap fun y => if y.2 = .free then some y.1 else none
/-- all cells of a lambda are pinned, and have these values -/
structure SC (H : Hp) (d : CloD) (vs : List V) : Prop where
  len : vs.length = (frees d).length
  pin : ∀ p ∈ d.cl, ∃ o w, H p.2 = some (PinO p.2 o) ∧ o.data = .cell w
  val : ∀ (i : Nat) (y : Str) (v : V), (frees d)[i]? = some y → vs[i]? = some v → ∃ c o u, d.cl.lookup y = some c ∧ H c = some (PinO c o) ∧ o.data = .cell (some u) ∧ RelV v u
theorem SC.mono {H H' : Hp} {d : CloD} {vs : List V} (e : ∀ b o, H b = some o → H' b = some o) (h : SC H d vs) : SC H' d vs :=
  ⟨h.len, fun p hp => let ⟨o, w, a, b⟩ := h.pin p hp; ⟨o, w, e _ _ a, b⟩, fun i y v h1 h2 => let ⟨c, o, u, a1, a2, a3, a4⟩ := h.val i y v h1 h2; ⟨c, o, u, a1, e _ _ a2, a3, a4⟩⟩
end Clo
/-! enumerate of a tuple -/
namespace PySem
open Sem (wp)
open AutoSeq1 (wpAny_loadPart')
theorem ent_meets (l : Addr) (items : Array Value) (n : Nat) (dct : Option Addr) (sl : Array (Option Value)) :
    Meets (Builtin.«enumerate.__new__» ⟨[.type "enumerate", .ref l], []⟩) (fun _ R s => s.heap.get? l = some { cls := .type "tuple", dict := dct, data := .seq items n, slots := sl } ∧
      R (.ok (.ret (.ref (s.heap.push { cls := .type "tuple_iterator", data := .fields #[.ref l, .int 0 0] }).objs.size)))
        { s with heap := (s.heap.push { cls := .type "tuple_iterator", data := .fields #[.ref l, .int 0 0] }).push { cls := .type "enumerate", data := .fields #[.none, .bool false, .ref s.heap.objs.size, rawInt 0, .none, .none] } }) :=
  .of_wp fun prog w A R s h => by
    obtain ⟨hp, g, d, tk, os⟩ := s
    obtain ⟨hl, h⟩ := h
    have hsub := sub_enumerate
    have hL : Heap.IsTuple (Shared.heap ⟨hp, g, d, tk, os⟩) l items := ⟨_, hl, rfl, n, rfl⟩
    wp_walk using wpAny_loadPart' hl
    refine wpAny_stack_any fun st => wpAny_pure ?_
    split
    · rename_i c _ _ _ _ _
      cases (c == Value.type "enumerate")
      · wp_walk using wpAny_loadPart' hl, wpAny_pyIter_tuple hL
        exact ⟨_, rfl, h⟩
      · wp_walk using wpAny_loadPart' hl, wpAny_pyIter_tuple hL
        exact ⟨_, rfl, h⟩
    · wp_walk using wpAny_loadPart' hl, wpAny_pyIter_tuple hL
      exact ⟨_, rfl, h⟩
section
variable {prog : Program} {w : World} {A : Around} {E : Value → Shared → Prop} {s : Shared}
theorem call_ent {l : Addr} {items : Array Value} {Q : Value → Shared → Prop} (hL : s.heap.IsTuple l items)
    (h : ∀ h', IsEnum h' (s.heap.objs.size + 1) s.heap.objs.size 0 .none → h'.IsTupleIter s.heap.objs.size l 0 → h'.objs.size = s.heap.objs.size + 2 →
      (∀ b o, s.heap.get? b = some o → h'.get? b = some o) → Q (.ref (s.heap.objs.size + 1)) { s with heap := h' }) :
    wpAny (model prog w) A (call (.type "enumerate") [.ref l]) Q E s := by
  obtain ⟨⟨c, dct, dt, sl⟩, hl, hc, n, hd⟩ := hL
  replace hc : c = .type "tuple" := hc
  replace hd : dt = .seq items n := hd
  subst hc hd
  refine callType_new F.called_enumerate (by decide) (F.typeCall_enumerate_1 _) (F.newCall_enumerate_1 _) (fun obj => F.args_object_init_2 obj _) F.entry_enumerate_new
    (ent_meets l items n dct sl) ⟨hl, ?_⟩
  have hz : (s.heap.push { cls := .type "tuple_iterator", data := .fields #[.ref l, .int 0 0] }).objs.size = s.heap.objs.size + 1 := Heap.size_push ..
  show _ ∧ _
  rw [hz]
  have he : IsEnum ((s.heap.push { cls := .type "tuple_iterator", data := .fields #[.ref l, .int 0 0] }).push
      { cls := .type "enumerate", data := .fields #[.none, .bool false, .ref s.heap.objs.size, rawInt 0, .none, .none] }) (s.heap.objs.size + 1) s.heap.objs.size 0 .none := by
    have := Heap.get?_push_size (s.heap.push { cls := .type "tuple_iterator", data := .fields #[.ref l, .int 0 0] })
      (o := { cls := .type "enumerate", data := .fields #[.none, .bool false, .ref s.heap.objs.size, rawInt 0, .none, .none] }) rfl
    rw [hz] at this
    exact this
  refine ⟨⟨_, he, rfl⟩, h _ he ⟨_, Heap.get?_push_of_some _ (Heap.get?_push_size _ rfl), rfl, rfl⟩ (by rw [Heap.size_push, hz]) fun b o x => Heap.get?_push_of_some _ (Heap.get?_push_of_some _ x)⟩
theorem draws_tup {it t : Addr} {items : Array Value} (hne : t ≠ it) (hh : A.handled = none) : Draws prog w A it [it, t] items.size (fun i x => items[i]? = some x) (fun i h => h.IsTupleIter it t i ∧ h.IsTuple t items) where
  live := fun i h ⟨⟨o, e, _⟩, _⟩ => ⟨o, e⟩
  frame := fun i h h' ⟨⟨o, e, r⟩, ⟨o2, e2, r2⟩⟩ k => ⟨⟨o, k it (by simp) o e, r⟩, ⟨o2, k t (by simp) o2 e2, r2⟩⟩
  item := fun i s Q E hi ⟨h1, h2⟩ hQ => RZ.nextOf_tuple_item h1 h2 (x := items[i]) (by simp [hi]) fun h' h1' sb => hQ _ h' s.toks (by simp [hi]) ⟨h1', by
    obtain ⟨o2, e2, r2⟩ := h2
    exact ⟨o2, (sb.2 t hne).trans e2, r2⟩⟩ sb
  done := fun s Q E ⟨h1, h2⟩ hE => RZ.nextOf_tuple_end hh h1 h2 (by simp) hE
end
end PySem
namespace L2
open PySem PySem.Spec PyProof.Rows
def IteT (K : PySem.W.Frag) (a : Addr) : It :=
  ⟨fun i H => ∃ (xs : List V) (x : V), SqT K H a xs ∧ xs[i]? = some x, fun i H v H' => ∃ T x, v = .ref T ∧ H T = none ∧ H' = upd H T (.tup [.int (i : Nat), x]) ∧ ∀ xs, SqT K H a xs → xs[i]? = some x, fun i H => ∃ xs : List V, SqT K H a xs ∧ xs.length ≤ i⟩
theorem turn_ent {P : Program} {w : World} {K : PySem.W.Frag} {elts : List Expr} {kk : Nat} {tpos : Pos} (a e it : Addr) :
    Turn P w K (.Tuple elts kk tpos) (IteT K a) [e, it] e (fun i h => (∃ old, IsEnum h e it ((i : Nat) : Int) old) ∧ h.IsTupleIter it a i ∧ e ≠ it) where
  mem := by simp
  obj := fun i h st b hb => by
    obtain ⟨⟨old, he⟩, ⟨o, ho, hc, hd⟩, _⟩ := st
    have e' : b = e ∨ b = it := by simpa using hb
    rcases e' with z | z
    · rw [z]; exact ⟨_, he, fun v q => nomatch q⟩
    · rw [z]; exact ⟨o, ho, fun v q => by rw [hd] at q; cases q⟩
  keep := fun i h h' st k => let ⟨⟨old, he⟩, hi, hne⟩ := st; ⟨⟨old, k e (by simp) _ he⟩, hi.at fun o q => k it (by simp) o q, hne⟩
  item := by
    intro X hP hw hK hc i pins s σ H E I hf st hg
    subst hP hw hK
    obtain ⟨⟨old, he⟩, hit, hne⟩ := st
    obtain ⟨xs, x, hq, hx⟩ := hg
    obtain ⟨its, rv, p, hz⟩ := I.tuple hq
    obtain ⟨u, hu, ru⟩ := rv.get hx
    have hel : e < s.heap.objs.size := Heap.lt_size he
    have hil : it < s.heap.objs.size := by obtain ⟨_, q, _⟩ := hit; exact Heap.lt_size q
    have pt : s.heap.IsTuple a its.toArray := p
    have hai : a ≠ it := fun z => by
      obtain ⟨o1, e1, c1, _⟩ := pt
      obtain ⟨o2, e2, c2, _⟩ := hit
      rw [z, e2] at e1
      cases e1
      rw [c1] at c2
      exact absurd (Value.type.inj c2) (by decide)
    have hea : e ≠ a := fun z => by
      obtain ⟨o1, e1, c1, _⟩ := pt
      rw [← z, he] at e1
      cases e1
      exact absurd (Value.type.inj c1) (by decide)
    have hlt : i < its.toArray.size := by
      have := (List.getElem?_eq_some_iff.mp hu).1
      simpa using this
    refine wpAny_pyNext_enum_itemD (draws_tup (items := its.toArray) hai (I.ok.hd hc)) he ⟨hit, pt⟩ hlt hne (by simp; exact ⟨hne, hea⟩) fun x' h' tk hx' ho hit' hT hsz hk => ?_
    have ex : x' = u := by
      have hx'' : its.toArray[i]? = some x' := hx'
      simp only [List.getElem?_toArray] at hx''
      rw [hu] at hx''
      exact (Option.some.inj hx'').symm
    subst ex
    refine ⟨_, rfl, wpAny_letOwnedTupleGo_enum (s := { s with heap := h', toks := tk + 1 }) ho fun h'' he' sb => ?_⟩
    have hT2 : h''.get? s.heap.objs.size = some { cls := .type "tuple", data := .seq #[.int i tk, x'] } := (sb.2 _ (Nat.ne_of_gt hel)).trans hT
    have new : ObjOk X.prog X.w (upd H s.heap.objs.size (.tup [.int (i : Nat), x])) h'' s.heap.objs.size (.tup [.int (i : Nat), x]) :=
      ⟨by show 2 ≤ sizeLine; decide, [.int i tk, x'], .cons ⟨_, rfl⟩ (.cons ru .nil), ⟨_, hT2, rfl, _, rfl⟩⟩
    have I1 : Inv X pins σ (upd H s.heap.objs.size (.tup [.int (i : Nat), x])) { s with heap := h'', toks := tk + 1 } :=
      I.turnedNew (ch := [e, it]) (fun b ob hb q => (sb.2 b (fun z => hb (by simp [z]))).trans (hk b ob (fun z => hb (by simp [z])) (fun z => hb (by simp [z])) q)) hf (Nat.le_refl _) new
    refine ⟨.ref s.heap.objs.size, _, I1, rfl, ⟨_, x, rfl, I.hok.fresh (Nat.le_refl _), rfl, fun ys hy => by rw [I.tuple_inj hy hq]; exact hx⟩, ⟨⟨x', ?_⟩, hit'.1.at fun o q => (sb.2 it (Ne.symm hne)).trans q, hne⟩, fun b hb => ?_⟩
    · have e1 : ((i + 1 : Nat) : Int) = (i : Int) + 1 := by omega
      rw [e1]; exact he'
    · have hb' : b < s.heap.objs.size := by
        have e' : b = e ∨ b = it := by simpa using hb
        rcases e' with z | z
        · rw [z]; exact hel
        · rw [z]; exact hil
      rw [upd_ne (Nat.ne_of_lt hb')]
      exact (hf b hb).1
  done := by
    intro X hP hw hK hc i pins s σ H E I hf st hg
    subst hP hw hK
    obtain ⟨⟨old, he⟩, hit, hne⟩ := st
    obtain ⟨xs, hq, hx⟩ := hg
    obtain ⟨its, rv, p, hz⟩ := I.tuple hq
    obtain ⟨f0, f1, f2, f3, f4, f5⟩ := hf it (by simp)
    have hl := rv.length
    have pt : s.heap.IsTuple a its.toArray := p
    have hh := I.ok.hd hc
    have hT : s.TypeIs (.ref e) "enumerate" := ⟨_, he, rfl⟩
    unfold pyNext
    refine wpAny_bind (wpAny_attempt (wpAny_callSpecial?_slot (name := Str.ofString "__next__") hT F.slot_enumerate_next
      (wpAny_call_entry F.slot_enumerate_next hT F.entry_enumerate_next ?_ (F.args_enumerate_next_1 _))))
    show wpAny _ _ (field (.ref e) 2 >>= _) _ _ _
    refine wpAny_bind (wpAny_field he rfl (x := .ref it) rfl ?_)
    refine wpAny_bind (RZ.nextOf_tuple_end hh hit pt (by simp; omega) fun h' x he' hx' => ?_)
    obtain ⟨o, ho, hc⟩ := hx'
    refine wpAny_bind (wpAny_isInstance (T := "StopIteration") (b := true) ⟨o, ho, hc⟩ isSubtype_stop ?_)
    exact wpAny_pure ⟨rfl, I.turned (t' := s.toks) (fun b o hb q => he' b o hb q) f0 f1 f3 f4 f5⟩
  self := fun A i s Q E st h => let ⟨⟨_, he⟩, _⟩ := st; wpAny_pyIter_enum he h
def iEnT (K : PySem.W.Frag) (ta : TA) : TI := fun σ H R => ta σ H fun vs H1 => ∃ a xs, vs = [.ref a] ∧ SqT K H1 a xs ∧ R (IteT K a) H1
theorem pi_ent {X : Cx} {e : Expr} {ta : TA} {p pos tpos : Pos} {elts : List Expr} {kk : Nat} (hg : Gl X "enumerate") (hm : X.mg "enumerate" = none) (ha : PA X [e] ta) (hs : starEach [e] X.env = [(false, eval e X.env)] := by rfl) :
    PI X (.Tuple elts kk tpos) (.Call (.Name "enumerate" p) [e] [] pos) (iEnT X.K ta) := by
  refine ⟨fun pins s σ H R I h => ?_⟩
  refine Call_ (ld_blt I hg hm boot_enumerate (PyProof.Rows.callWith_type1 (thn (ha.run pos pins s σ H _ I h) fun us s1 ⟨vs, H1, I1, r1, q1⟩ => ?_) hs rfl))
  obtain ⟨a, xs, ex, hq, q⟩ := q1
  subst ex
  cases r1 with
  | cons r rr =>
    cases rr
    cases r
    obtain ⟨its, rv, p', hz⟩ := I1.tuple hq
    refine call_ent (show s1.heap.IsTuple a its.toArray from p') fun h' he hit hsz hk => wpAny_pyIter_enum he ?_
    have I2 : Inv X pins σ H1 { s1 with heap := h' } := I1.kept (t' := s1.toks) hk
    refine ⟨s1.heap.objs.size + 1, [s1.heap.objs.size + 1, s1.heap.objs.size], _, _, H1, rfl, I2, turn_ent a (s1.heap.objs.size + 1) s1.heap.objs.size, ⟨⟨.none, he⟩, hit, Nat.succ_ne_self _⟩, fun b hb => ?_, q⟩
    have e' : b = s1.heap.objs.size + 1 ∨ b = s1.heap.objs.size := by simpa using hb
    have hle : s1.heap.objs.size ≤ b := by
      rcases e' with z | z
      · rw [z]; exact Nat.le_add_right _ _
      · rw [z]; exact Nat.le_refl _
    exact I1.fpOk hle (I1.hok.fresh hle)
end L2
/-! The D layer: a def's text read as a transformer over plain data, without heap. -/
namespace DL
open PySem PySem.Spec PyProof.Rows L2
/-! ### heaps: what stands for good -/
abbrev Ex (H H' : Hp) : Prop := ∀ b o, H b = some o → H' b = some o
theorem Ex.rf (H : Hp) : Ex H H := fun _ _ e => e
theorem Ex.tr {H H1 H2 : Hp} (a : Ex H H1) (b : Ex H1 H2) : Ex H H2 := fun x o h => b x o (a x o h)
theorem upd_at {H : Hp} {p : Addr} {o : HO} : (upd H p o) p = some o := upd_same
theorem ex_new {H : Hp} {p : Addr} {o : HO} (h : H p = none) : Ex H (upd H p o) := fun b u e => (upd_ne (ne_of_none e h)).trans e
theorem ex_none {G H : Hp} (e : Ex G H) {p : Addr} (h : H p = none) : G p = none := by
  cases q : G p with
  | none => rfl
  | some o => rw [e p o q] at h; cases h
theorem ex_put {G H : Hp} (e : Ex G H) {p : Addr} {o : HO} (h : G p = none) : Ex G (upd H p o) := fun b u q => (upd_ne fun z => by rw [z, h] at q; cases q).trans (e b u q)
theorem ex_fix {G H : Hp} (e : Ex G H) {p : Addr} {o : HO} : Ex (upd G p o) (upd H p o) := fun b u q => by
  by_cases z : b = p
  · subst z
    rw [upd_at] at q ⊢
    exact q
  · rw [upd_ne z] at q ⊢
    exact e b u q
theorem ex_fix' {G H : Hp} (e : Ex G H) {p : Addr} {o : HO} (h : H p = some o) : Ex (upd G p o) H := fun b u q => by
  by_cases z : b = p
  · subst z
    rw [upd_at] at q
    rw [h]
    exact q
  · rw [upd_ne z] at q
    exact e b u q
/-! ### data -/
inductive D where
  | non | bl (b : Bool) | int (i : Int) | str (x : Str) | tup (ds : List D) | lst (ds : List D) | dct (ks : List Key) (ds : List D) | obj (C : Addr) (ns : List Str) (ds : List D) | ty (n : String) | cls (C : Addr) | clo (d : Clo.CloD) | sc (d : Clo.CloD) (env : List D)
mutual
inductive Vd (H : Hp) : V → D → Prop
  | non : Vd H .non .non
  | bl (b : Bool) : Vd H (.bl b) (.bl b)
  | int (i : Int) : Vd H (.int i) (.int i)
  | str (x : Str) : Vd H (.str x) (.str x)
  | ty (n : String) : Vd H (.ty n) (.ty n)
  | cls (C : Addr) : Vd H (.ref C) (.cls C)
  | clo {f : Addr} {d : Clo.CloD} : Clo.LamAt H f d → Vd H (.ref f) (.clo d)
  | sc {f : Addr} {d : Clo.CloD} {vs : List V} {env : List D} : Clo.LamAt H f d → Clo.SC H d vs → Vds H vs env → Vd H (.ref f) (.sc d env)
  | lst {a : Addr} {xs : List V} {ds : List D} : H a = some (.lst xs) → Vds H xs ds → Vd H (.ref a) (.lst ds)
  | tup {a : Addr} {xs : List V} {ds : List D} : H a = some (.tup xs) → Vds H xs ds → Vd H (.ref a) (.tup ds)
  | dct {a : Addr} {ks : List Key} {xs : List V} {ds : List D} : H a = some (.dK (ks.zip xs)) → ks.length = xs.length → Vds H xs ds → Vd H (.ref a) (.dct ks ds)
  | obj {a C dx : Addr} {ns : List Str} {xs : List V} {ds : List D} : H a = some (.ins C dx (ns.zip xs)) → ns.length = xs.length → Vds H xs ds → Vd H (.ref a) (.obj C ns ds)
inductive Vds (H : Hp) : List V → List D → Prop
  | nil : Vds H [] []
  | cons {v : V} {vs : List V} {d : D} {ds : List D} : Vd H v d → Vds H vs ds → Vds H (v :: vs) (d :: ds)
end
mutual
theorem Vd.mono {H H' : Hp} (e : Ex H H') : ∀ {d : D} {v : V}, Vd H v d → Vd H' v d
  | _, _, .non => .non
  | _, _, .bl b => .bl b
  | _, _, .int i => .int i
  | _, _, .str x => .str x
  | _, _, .ty n => .ty n
  | _, _, .cls C => .cls C
  | _, _, .clo h => .clo (h.mono e)
  | _, _, .sc h k t => .sc (h.mono e) (k.mono e) (Vds.mono e t)
  | _, _, .lst h t => .lst (e _ _ h) (Vds.mono e t)
  | _, _, .tup h t => .tup (e _ _ h) (Vds.mono e t)
  | _, _, .dct h l t => .dct (e _ _ h) l (Vds.mono e t)
  | _, _, .obj h l t => .obj (e _ _ h) l (Vds.mono e t)
theorem Vds.mono {H H' : Hp} (e : Ex H H') : ∀ {ds : List D} {vs : List V}, Vds H vs ds → Vds H' vs ds
  | _, _, .nil => .nil
  | _, _, .cons h t => .cons (Vd.mono e h) (Vds.mono e t)
end
theorem Vds.len {H : Hp} : ∀ {ds : List D} {vs : List V}, Vds H vs ds → vs.length = ds.length
  | _, _, .nil => rfl
  | _, _, .cons _ t => congrArg Nat.succ t.len
theorem Vds.get {H : Hp} : ∀ {ds : List D} {vs : List V}, Vds H vs ds → ∀ {i : Nat} {d : D}, ds[i]? = some d → ∃ v, vs[i]? = some v ∧ Vd H v d
  | _, _, .nil, i, d, h => by cases h
  | _, _, .cons h t, 0, d, e => by
    cases e
    exact ⟨_, rfl, h⟩
  | _, _, .cons h t, i + 1, d, e => t.get (i := i) e
theorem Vds.getV {H : Hp} : ∀ {ds : List D} {vs : List V}, Vds H vs ds → ∀ {i : Nat} {v : V}, vs[i]? = some v → ∃ d, ds[i]? = some d ∧ Vd H v d
  | _, _, .nil, i, d, h => by cases h
  | _, _, .cons h t, 0, d, e => by
    cases e
    exact ⟨_, rfl, h⟩
  | _, _, .cons h t, i + 1, d, e => t.getV (i := i) e
theorem Vds.app {H : Hp} : ∀ {ds es : List D} {vs us : List V}, Vds H vs ds → Vds H us es → Vds H (vs ++ us) (ds ++ es)
  | _, _, _, _, .nil, k => k
  | _, _, _, _, .cons h t, k => .cons h (t.app k)
theorem Vds.snoc {H : Hp} {ds : List D} {vs : List V} {d : D} {v : V} (h : Vds H vs ds) (k : Vd H v d) : Vds H (vs ++ [v]) (ds ++ [d]) := h.app (.cons k .nil)
/-! ### the pen: a dict with five rows and its list -/
def penL (L : Addr) (at_ dg cn fo : Int) : List (Key × V) := [(.inr "cells", .ref L), (.inr "at", .int at_), (.inr "digits", .int dg), (.inr "count", .int cn), (.inr "fold", .int fo)]
def PenAt (H : Hp) (p L : Addr) (c : Int) : Prop := ∃ (ns : List Int) (at_ dg cn fo : Int), H p = some (.dK (penL L at_ dg cn fo)) ∧ H L = some (.lst (ns.map V.int)) ∧ 0 ≤ at_ ∧ at_ ≤ ns.length ∧ ns.length ≤ 63 ∧ 0 ≤ dg ∧ 0 ≤ cn ∧ cn ≤ c ∧ 0 ≤ fo ∧ fo < 2147483477
theorem PenAt.ex {H H' : Hp} {p L : Addr} {c : Int} (e : Ex H H') (h : PenAt H p L c) : PenAt H' p L c := by
  obtain ⟨ns, at_, dg, cn, fo, hp, hL, r⟩ := h
  exact ⟨ns, at_, dg, cn, fo, e _ _ hp, e _ _ hL, r⟩
theorem PenAt.put {H : Hp} {p L a : Addr} {c : Int} {o : HO} (np : a ≠ p) (nL : a ≠ L) (h : PenAt H p L c) : PenAt (upd H a o) p L c := by
  obtain ⟨ns, at_, dg, cn, fo, hp, hL, r⟩ := h
  exact ⟨ns, at_, dg, cn, fo, (upd_ne np.symm).trans hp, (upd_ne nL.symm).trans hL, r⟩
theorem PenAt.ne {H : Hp} {p L a : Addr} {c : Int} (h : PenAt H p L c) (ha : H a = none) : a ≠ p ∧ a ≠ L := by
  obtain ⟨ns, at_, dg, cn, fo, hp, hL, r⟩ := h
  exact ⟨fun z => (by rw [z, hp] at ha; cases ha), fun z => (by rw [z, hL] at ha; cases ha)⟩
/-! ### states -/
/-- rows of a dict -/
inductive Kvs (H : Hp) : List (Key × V) → List (Key × D) → Prop
  | nil : Kvs H [] []
  | cons {k : Key} {v : V} {vs : List (Key × V)} {d : D} {ds : List (Key × D)} : Vd H v d → Kvs H vs ds → Kvs H ((k, v) :: vs) ((k, d) :: ds)
theorem Kvs.mono {H H' : Hp} (e : Ex H H') : ∀ {ds : List (Key × D)} {vs : List (Key × V)}, Kvs H vs ds → Kvs H' vs ds
  | _, _, .nil => .nil
  | _, _, .cons h t => .cons (Vd.mono e h) (t.mono e)
/-- what is one's own: a list, a dict -/
inductive OD where
  | l (ds : List D) | k (kd : List (Key × D))
/-- what stands at the address of one's own thing -/
def OV (G : Hp) : OD → HO → Prop
  | .l ds, o => ∃ vs, o = .lst vs ∧ Vds G vs ds
  | .k kd, o => ∃ kvs, o = .dK kvs ∧ Kvs G kvs kd
theorem OV.mono {H H' : Hp} (e : Ex H H') : ∀ {x : OD} {o : HO}, OV H x o → OV H' x o
  | .l _, _, ⟨vs, a, b⟩ => ⟨vs, a, Vds.mono e b⟩
  | .k _, _, ⟨vs, a, b⟩ => ⟨vs, a, b.mono e⟩
theorem OV.tbl {H : Hp} : ∀ {x : OD} {o : HO}, OV H x o → ∀ ps, o ≠ .tbl ps
  | .l _, _, ⟨vs, a, b⟩, ps => by rw [a]; exact fun z => nomatch z
  | .k _, _, ⟨vs, a, b⟩, ps => by rw [a]; exact fun z => nomatch z
theorem OV.code {H : Hp} : ∀ {x : OD} {o : HO}, OV H x o → ∀ b q, o ≠ LamX.CodeO b q
  | .l _, _, ⟨vs, a, b⟩, ps, q => by rw [a]; exact fun z => nomatch z
  | .k _, _, ⟨vs, a, b⟩, ps, q => by rw [a]; exact fun z => nomatch z
inductive Slot where
  | no | d (x : D) | own (o : OD) | pen
structure S where
  sl : List Slot
  c : Int
abbrev S.set (s : S) (i : Nat) (x : Slot) : S := ⟨s.sl.set i x, s.c⟩
/-- what a def's walk stands on: the pen (its address and its list's), the heaps at its begin -/
structure Cm where
  pen : Option (Addr × Addr)
  G0 : Hp
  H0 : Hp
  tabs : List (Addr × Str)
/-- b is not what the pen's holder may change -/
def Fr0 (M : Cm) (b : Addr) : Prop := (∀ p L, M.pen = some (p, L) → b ≠ p) ∧ b ∉ M.tabs.map (·.1)
/-- a may be a list of one's own -/
def OwnOk (M : Cm) (a : Addr) : Prop := (∀ p L, M.pen = some (p, L) → a ≠ p ∧ a ≠ L) ∧ a ∉ M.tabs.map (·.1)
theorem OwnOk.fr {M : Cm} {a : Addr} (h : OwnOk M a) : Fr0 M a := ⟨fun p L e => (h.1 p L e).1, h.2⟩
/-- the tables of code objects -/
def TabG (T : List (Addr × Str)) (G H : Hp) : Prop := ∀ p ∈ T, ∃ ps : Array Value, H p.1 = some (.tbl ps) ∧ TriplesOk ps.toList ∧ ∀ (pos : Pos) (cv : Value), codeAmong pos ps.toList = some cv → ∃ c, cv = .ref c ∧ G c = some (LamX.CodeO c p.2)
def TabOk (M : Cm) (G H : Hp) : Prop := TabG M.tabs G H ∧ ∀ q ∈ M.tabs.map (·.1), G q = none
theorem TabOk.at_ {M : Cm} {G H : Hp} (h : TabOk M G H) {q : Addr} (hq : q ∈ M.tabs.map (·.1)) : ∃ ps, H q = some (.tbl ps) := by
  obtain ⟨p, hp, rfl⟩ := List.mem_map.mp hq
  obtain ⟨ps, e, _⟩ := h.1 p hp
  exact ⟨ps, e⟩
theorem TabOk.ne {M : Cm} {G H : Hp} (h : TabOk M G H) {a : Addr} (ha : ∀ ps, H a ≠ some (.tbl ps)) : a ∉ M.tabs.map (·.1) := fun hq => by
  obtain ⟨ps, e⟩ := h.at_ hq
  exact ha ps e
/-- what is no table may change -/
theorem tabs_keep {T : List (Addr × Str)} {G G' H H' : Hp} (t : TabG T G H) (k : ∀ b ps, H b = some (.tbl ps) → H' b = some (.tbl ps)) (g : Ex G G') : TabG T G' H' := fun p hp => by
  obtain ⟨ps, h1, h2, h3⟩ := t p hp
  refine ⟨ps, k _ _ h1, h2, fun pos cv hc => ?_⟩
  obtain ⟨c, e1, e2⟩ := h3 pos cv hc
  exact ⟨c, e1, g _ _ e2⟩
theorem TabOk.ex {M : Cm} {G H G' H' : Hp} (h : TabOk M G H) (x : Ex G H) (e : Ex H H') (g : ∀ b, H b ≠ none → G' b = G b) : TabOk M G' H' := ⟨tabs_keep h.1 (fun b ps q => e _ _ q) fun b o q => (g b (by rw [x b o q]; exact fun z => nomatch z)).trans q, fun q hq => by
  obtain ⟨ps, e'⟩ := h.at_ hq
  exact (g q (by rw [e']; exact fun z => nomatch z)).trans (h.2 q hq)⟩
def SlOk (M : Cm) (G H : Hp) : Slot → Option V → Prop
  | .no, _ => True
  | .d x, ov => ∃ v, ov = some v ∧ Vd G v x
  | .own ds, ov => ∃ a o, ov = some (.ref a) ∧ H a = some o ∧ OV G ds o ∧ G a = none ∧ M.H0 a = none ∧ OwnOk M a
  | .pen, ov => ∃ p L, M.pen = some (p, L) ∧ ov = some (.ref p)
structure Rel (M : Cm) (s : S) (σ : L2.St) (G H : Hp) : Prop where
  ex : Ex G H
  fr : ∀ b, M.H0 b ≠ none → Fr0 M b → H b = M.H0 b ∧ G b = M.G0 b
  pen : ∀ p L, M.pen = some (p, L) → PenAt H p L s.c ∧ G p = none
  tab : TabOk M G H
  len : s.sl.length = σ.length
  sl : ∀ (i : Nat) (x : Slot) (ov : Option V), s.sl[i]? = some x → σ[i]? = some ov → SlOk M G H x ov
  inj : ∀ (i j : Nat) (ds es : OD) (a : Addr), s.sl[i]? = some (.own ds) → s.sl[j]? = some (.own es) → σ[i]? = some (some (.ref a)) → σ[j]? = some (some (.ref a)) → i = j
section
variable {M : Cm} {s : S} {σ : L2.St} {G H : Hp}
/-- b is not the pen, not one's own list -/
def Out (M : Cm) (s : S) (σ : L2.St) (b : Addr) : Prop := Fr0 M b ∧ ∀ (i : Nat) (es : OD), s.sl[i]? = some (.own es) → σ[i]? ≠ some (some (.ref b))
/-- a step: G grows, what is there stays but the pen and one's own lists -/
structure Go (M : Cm) (σ : L2.St) (s : S) (G H : Hp) (s' : S) (G' H' : Hp) : Prop where
  ex : Ex G G'
  old : ∀ b, H b ≠ none → Out M s σ b → H' b = H b ∧ G' b = G b
  own : ∀ i : Nat, (∃ es, s'.sl[i]? = some (.own es)) ↔ ∃ es, s.sl[i]? = some (.own es)
theorem Go.rf : Go M σ s G H s G H := ⟨Ex.rf G, fun _ _ _ => ⟨rfl, rfl⟩, fun _ => Iff.rfl⟩
theorem Go.tr {s1 s2 : S} {G1 H1 G2 H2 : Hp} (a : Go M σ s G H s1 G1 H1) (b : Go M σ s1 G1 H1 s2 G2 H2) : Go M σ s G H s2 G2 H2 := ⟨a.ex.tr b.ex, fun x h n => by
  obtain ⟨e1, e2⟩ := a.old x h n
  obtain ⟨e3, e4⟩ := b.old x (by rw [e1]; exact h) ⟨n.1, fun i es hi => by
    obtain ⟨es', h'⟩ := (a.own i).mp ⟨es, hi⟩
    exact n.2 i es' h'⟩
  exact ⟨e3.trans e1, e4.trans e2⟩, fun i => (b.own i).trans (a.own i)⟩
theorem Rel.getO (R : Rel M s σ G H) {i : Nat} {ds : OD} (h : s.sl[i]? = some (.own ds)) : ∃ a o, σ[i]? = some (some (.ref a)) ∧ H a = some o ∧ OV G ds o ∧ G a = none ∧ M.H0 a = none ∧ OwnOk M a := by
  have hi : i < s.sl.length := (List.getElem?_eq_some_iff.mp h).1
  have h2 : i < σ.length := by rw [← R.len]; exact hi
  obtain ⟨a, vs, e, r⟩ := R.sl i _ _ h (List.getElem?_eq_getElem h2)
  exact ⟨a, vs, by rw [List.getElem?_eq_getElem h2, e], r⟩
theorem Rel.getL (R : Rel M s σ G H) {i : Nat} {ds : List D} (h : s.sl[i]? = some (.own (.l ds))) : ∃ a vs, σ[i]? = some (some (.ref a)) ∧ H a = some (.lst vs) ∧ Vds G vs ds ∧ G a = none ∧ M.H0 a = none ∧ OwnOk M a := by
  obtain ⟨a, o, e1, e2, ⟨vs, rfl, e3⟩, e4⟩ := R.getO h
  exact ⟨a, vs, e1, e2, e3, e4⟩
theorem Rel.getK (R : Rel M s σ G H) {i : Nat} {ds : List (Key × D)} (h : s.sl[i]? = some (.own (.k ds))) : ∃ a kvs, σ[i]? = some (some (.ref a)) ∧ H a = some (.dK kvs) ∧ Kvs G kvs ds ∧ G a = none ∧ M.H0 a = none ∧ OwnOk M a := by
  obtain ⟨a, o, e1, e2, ⟨vs, rfl, e3⟩, e4⟩ := R.getO h
  exact ⟨a, vs, e1, e2, e3, e4⟩
/-- a state is kept by a step that keeps all that is there, but the pen -/
theorem Rel.go {c' : Int} {G' H' : Hp} (R : Rel M s σ G H) (ex : Ex G G') (old : ∀ b, H b ≠ none → Fr0 M b → H' b = H b ∧ G' b = G b) (sub : Ex G' H')
    (hp : ∀ p L, M.pen = some (p, L) → PenAt H' p L c' ∧ G' p = none) (ht : TabOk M G' H') : Rel M ⟨s.sl, c'⟩ σ G' H' := by
  refine ⟨sub, fun b hb hn => ?_, hp, ht, R.len, fun i x ov h1 h2 => ?_, R.inj⟩
  · obtain ⟨e1, e2⟩ := R.fr b hb hn
    obtain ⟨e3, e4⟩ := old b (by rw [e1]; exact hb) hn
    exact ⟨e3.trans e1, e4.trans e2⟩
  · have h := R.sl i x ov h1 h2
    cases x with
    | no => exact h
    | d x =>
      obtain ⟨v, h2, h3⟩ := h
      exact ⟨v, h2, Vd.mono ex h3⟩
    | own ds =>
      obtain ⟨a, vs, h1, h2, h3, h4, h5, h6⟩ := h
      obtain ⟨e1, e2⟩ := old a (by rw [h2]; exact fun z => nomatch z) h6.fr
      exact ⟨a, vs, h1, e1.trans h2, h3.mono ex, e2.trans h4, h5, h6⟩
    | pen => exact h
theorem new_old {p : Addr} {o u : HO} (hp : H p = none) (b : Addr) (hb : H b ≠ none) : (upd H p o) b = H b ∧ (upd G p u) b = G b := by
  have ne : b ≠ p := fun z => hb (by rw [z]; exact hp)
  exact ⟨upd_ne ne, upd_ne ne⟩
theorem lay_old {p : Addr} {o : HO} (hp : H p = none) (b : Addr) (hb : H b ≠ none) : (upd H p o) b = H b ∧ G b = G b := ⟨upd_ne fun z => hb (by rw [z]; exact hp), rfl⟩
theorem Go.new (R : Rel M s σ G H) {p : Addr} {o : HO} (hp : H p = none) : Go M σ s G H s (upd G p o) (upd H p o) := ⟨ex_new (ex_none R.ex hp), fun b hb _ => new_old hp b hb, fun _ => Iff.rfl⟩
theorem Go.lay {p : Addr} {o : HO} (hp : H p = none) : Go M σ s G H s G (upd H p o) := ⟨Ex.rf G, fun b hb _ => lay_old hp b hb, fun _ => Iff.rfl⟩
/-- what is free behind a step was free before -/
theorem Go.none {s1 : S} {G1 H1 : Hp} (g : Go M σ s G H s1 G1 H1) (r : Rel M s σ G H) (r1 : Rel M s1 σ G1 H1) {x : Addr} (h : H1 x = none) : H x = none := by
  cases q : H x with
  | none => rfl
  | some o =>
    exfalso
    by_cases out : Out M s σ x
    · have := (g.old x (by rw [q]; exact fun z => nomatch z) out).1
      rw [h, q] at this
      cases this
    · refine out ⟨⟨fun p L e z => ?_, fun z => ?_⟩, fun i es hi z => ?_⟩
      · exact ((r1.pen p L e).1.ne h).1 z
      · obtain ⟨ps, e⟩ := r1.tab.at_ z
        rw [h] at e
        cases e
      · obtain ⟨es', h'⟩ := (g.own i).mpr ⟨es, hi⟩
        obtain ⟨a, vs, e1, e2, _⟩ := r1.getO h'
        rw [z] at e1
        cases e1
        rw [h] at e2
        cases e2
theorem Rel.penNew (R : Rel M s σ G H) {a : Addr} {o : HO} (ha : H a = none) {G' : Hp} (hG : ∀ b, b ≠ a → G' b = G b) : ∀ p L, M.pen = some (p, L) → PenAt (upd H a o) p L s.c ∧ G' p = none := fun p L e => by
  obtain ⟨h1, h2⟩ := R.pen p L e
  exact ⟨h1.ex (ex_new ha), (hG p (h1.ne ha).1.symm).trans h2⟩
theorem Rel.new (R : Rel M s σ G H) {p : Addr} {o : HO} (hp : H p = none) : Rel M s σ (upd G p o) (upd H p o) := R.go (ex_new (ex_none R.ex hp)) (fun b hb _ => new_old hp b hb) (ex_fix R.ex) (R.penNew hp fun b n => upd_ne n) (R.tab.ex R.ex (ex_new hp) fun b hb => (new_old (o := o) (u := o) hp b hb).2)
theorem Rel.lay (R : Rel M s σ G H) {p : Addr} {o : HO} (hp : H p = none) : Rel M s σ G (upd H p o) := R.go (Ex.rf G) (fun b hb _ => lay_old hp b hb) (ex_put R.ex (ex_none R.ex hp)) (R.penNew hp fun b n => rfl) (R.tab.ex R.ex (ex_new hp) fun b hb => rfl)
theorem Rel.getD (R : Rel M s σ G H) {i : Nat} {x : D} (h : s.sl[i]? = some (.d x)) : ∃ v, σ[i]? = some (some v) ∧ Vd G v x := by
  have hi : i < s.sl.length := (List.getElem?_eq_some_iff.mp h).1
  have h2 : i < σ.length := by rw [← R.len]; exact hi
  obtain ⟨v, e, hv⟩ := R.sl i _ _ h (List.getElem?_eq_getElem h2)
  exact ⟨v, by rw [List.getElem?_eq_getElem h2, e], hv⟩
theorem Rel.getP (R : Rel M s σ G H) {i : Nat} (h : s.sl[i]? = some .pen) : ∃ p L, M.pen = some (p, L) ∧ σ[i]? = some (some (.ref p)) := by
  have hi : i < s.sl.length := (List.getElem?_eq_some_iff.mp h).1
  have h2 : i < σ.length := by rw [← R.len]; exact hi
  obtain ⟨p, L, e, r⟩ := R.sl i _ _ h (List.getElem?_eq_getElem h2)
  exact ⟨p, L, e, by rw [List.getElem?_eq_getElem h2, r]⟩
/-- a slot is written -/
theorem Rel.set (R : Rel M s σ G H) {i : Nat} {x : Slot} {ov : Option V} (hx : SlOk M G H x ov) (ho : ∀ (ds : OD) (a : Addr) (j : Nat) (es : OD), x = .own ds → ov = some (.ref a) → j ≠ i → s.sl[j]? = some (.own es) → σ[j]? ≠ some (some (.ref a))) : Rel M (s.set i x) (σ.set i ov) G H := by
  refine ⟨R.ex, R.fr, R.pen, R.tab, by simp [S.set, R.len], fun j y ow h1 h2 => ?_, fun j k ds es a w1 w2 h3 h4 => ?_⟩
  · have h1 : (s.sl.set i x)[j]? = some y := h1
    rw [List.getElem?_set] at h1 h2
    by_cases e : i = j
    · rw [if_pos e] at h1 h2
      split at h1
      · cases h1
        split at h2
        · cases h2
          exact hx
        · cases h2
      · cases h1
    · rw [if_neg e] at h1 h2
      exact R.sl j y ow h1 h2
  · have h1 : (s.sl.set i x)[j]? = some (.own ds) := w1
    have h2 : (s.sl.set i x)[k]? = some (.own es) := w2
    clear w1 w2
    rw [List.getElem?_set] at h1 h2 h3 h4
    by_cases e : i = j
    · by_cases e' : i = k
      · rw [← e, ← e']
      · rw [if_pos e] at h1 h3
        rw [if_neg e'] at h2 h4
        split at h1
        · split at h3
          · cases h1
            cases h3
            exact absurd h4 (ho ds a k es rfl rfl (Ne.symm e') h2)
          · cases h3
        · cases h1
    · rw [if_neg e] at h1 h3
      by_cases e' : i = k
      · rw [if_pos e'] at h2 h4
        split at h2
        · split at h4
          · cases h2
            cases h4
            exact absurd h3 (ho es a j ds rfl rfl (Ne.symm e) h1)
          · cases h4
        · cases h2
      · rw [if_neg e'] at h2 h4
        exact R.inj j k ds es a h1 h2 h3 h4
theorem Rel.setD (R : Rel M s σ G H) {i : Nat} {x : D} {v : V} (h : Vd G v x) : Rel M (s.set i (.d x)) (σ.set i (some v)) G H := R.set ⟨v, rfl, h⟩ fun _ _ _ _ e => nomatch e
theorem Rel.setN (R : Rel M s σ G H) {i : Nat} {ov : Option V} : Rel M (s.set i .no) (σ.set i ov) G H := R.set True.intro fun _ _ _ _ e => nomatch e
end
end DL
namespace DL
open PySem PySem.Spec PyProof.Rows L2
/-! ### contexts: one, or all those of a block -/
structure Fam (P : Program) (w : World) (K : PySem.W.Frag) (mg : Str → Option Value) (base : Heap) (k : Nat) where
  ι : Type
  X : ι → Cx
  hP : ∀ i, (X i).prog = P
  hw : ∀ i, (X i).w = w
  hK : ∀ i, (X i).K = K
  hm : ∀ i, (X i).mg = mg
  hb : ∀ i, (X i).base = base
  hr : ∀ i, Room k (X i).A
  hG : ∀ i, (X i).A.guards = some []
  hc : ∀ i, (X i).calm = true
  E : XK
  hx : ∀ i, Passes (L2.CX P w) (X i) E
abbrev DE := S → (D → S → Prop) → Prop
abbrev DA := S → (List D → S → Prop) → Prop
abbrev DT := S → (Bool → S → Prop) → Prop
def ESound (M : Cm) (t : TE) (φ : DE) : Prop := ∀ (s : S) (σ : L2.St) (G H : Hp) (R : D → S → Prop) (Q : VK), Rel M s σ G H → φ s R → (∀ d s' v G' H', R d s' → Rel M s' σ G' H' → Go M σ s G H s' G' H' → Vd G' v d → Q v H') → t σ H Q
def ASound (M : Cm) (t : TA) (φ : DA) : Prop := ∀ (s : S) (σ : L2.St) (G H : Hp) (R : List D → S → Prop) (Q : List V → Hp → Prop), Rel M s σ G H → φ s R → (∀ ds s' vs G' H', R ds s' → Rel M s' σ G' H' → Go M σ s G H s' G' H' → Vds G' vs ds → Q vs H') → t σ H Q
def TSound (M : Cm) (t : TT) (φ : DT) : Prop := ∀ (s : S) (σ : L2.St) (G H : Hp) (R : Bool → S → Prop) (Q : Bool → Hp → Prop), Rel M s σ G H → φ s R → (∀ b s' G' H', R b s' → Rel M s' σ G' H' → Go M σ s G H s' G' H' → Q b H') → t σ H Q
/-- a list that is made: it may be kept for good, or as one's own -/
def LSound (M : Cm) (t : TE) (φ : DA) : Prop := ∀ (s : S) (σ : L2.St) (G H : Hp) (R : List D → S → Prop) (Q : VK), Rel M s σ G H → φ s R →
  (∀ ds s' a vs G' H', R ds s' → Rel M s' σ G' H' → Go M σ s G H s' G' H' → Vds G' vs ds → H a = none → H' a = some (.lst vs) → G' a = none → M.H0 a = none → OwnOk M a → (∀ (i : Nat) (es : OD), s'.sl[i]? = some (.own es) → σ[i]? ≠ some (some (.ref a))) → Q (.ref a) H') → t σ H Q
section
variable {P : Program} {w : World} {K : PySem.W.Frag} {mg : Str → Option Value} {base : Heap} {k : Nat} {M : Cm} {F : Fam P w K mg base k}
variable (M F) in
def ED (e : Expr) (φ : DE) : Prop := ∃ t, (∀ i, PE (F.X i) e t) ∧ ESound M t φ
variable (M F) in
def EA (es : List Expr) (φ : DA) : Prop := ∃ t, (∀ i, PA (F.X i) es t) ∧ ASound M t φ
variable (M F) in
def ET (e : Expr) (φ : DT) : Prop := ∃ t, (∀ i, PT (F.X i) e t) ∧ TSound M t φ
variable (M F) in
def EL (e : Expr) (φ : DA) : Prop := ∃ t, (∀ i, PE (F.X i) e t) ∧ LSound M t φ
/-! ### plain expressions -/
@[simp] def dVar (i : Nat) : DE := fun s R => match s.sl[i]? with
  | some (.d x) => R x s
  | _ => False
theorem e_var (i : Nat) {e : Expr} (h : ∀ j, PE (F.X j) e (tVar i)) : ED M F e (dVar i) := ⟨_, h, fun s σ G H R Q rel h q => by
  unfold dVar at h
  split at h
  · rename_i x hx
    obtain ⟨v, e, hv⟩ := rel.getD hx
    exact ⟨v, e, q _ _ _ _ _ h rel Go.rf hv⟩
  · exact h.elim⟩
@[simp] def dC (x : D) : DE := fun s R => R x s
theorem e_c {e : Expr} {v : V} {x : D} (h : ∀ j, PE (F.X j) e (tC v)) (hv : ∀ G, Vd G v x) : ED M F e (dC x) := ⟨_, h, fun s σ G H R Q rel h q => q _ _ _ _ _ h rel Go.rf (hv G)⟩
theorem e_int {i : Int} {j pos} : ED M F (.Constant (.int i) j pos) (dC (.int i)) := e_c (fun _ => pe_int) fun _ => .int i
theorem e_str {x : Str} {j pos} : ED M F (.Constant (.str x) j pos) (dC (.str x)) := e_c (fun _ => pe_str) fun _ => .str x
theorem e_bl {b : Bool} {j pos} : ED M F (.Constant (.bool b) j pos) (dC (.bl b)) := e_c (fun _ => pe_bl) fun _ => .bl b
theorem e_non {j pos} : ED M F (.Constant .none j pos) (dC .non) := e_c (fun _ => pe_non) fun _ => .non
@[simp] def aNil : DA := fun s R => R [] s
@[simp] def aCons (φ : DE) (ψ : DA) : DA := fun s R => φ s fun d s1 => ψ s1 fun ds s2 => R (d :: ds) s2
theorem a_nil : EA M F [] aNil := ⟨_, fun _ => pa_nil, fun s σ G H R Q rel h q => q _ _ _ _ _ h rel Go.rf .nil⟩
theorem a_cons {e : Expr} {es : List Expr} {φ : DE} {ψ : DA} (h1 : ED M F e φ) (h2 : EA M F es ψ) (hs : ∀ j, starEach (e :: es) (F.X j).env = (false, eval e (F.X j).env) :: starEach es (F.X j).env := by intro _; rfl) : EA M F (e :: es) (aCons φ ψ) := by
  obtain ⟨t, p, a⟩ := h1
  obtain ⟨u, p2, b⟩ := h2
  refine ⟨_, fun j => pa_cons (p j) (p2 j) (hs j), fun s σ G H R Q rel h q => ?_⟩
  refine a s σ G H _ _ rel h fun d s1 v G1 H1 h1 r1 e1 hv => ?_
  exact b s1 σ G1 H1 _ _ r1 h1 fun ds s2 vs G2 H2 h2 r2 e2 hvs => q _ _ _ _ _ h2 r2 (e1.tr e2) (.cons (Vd.mono e2.ex hv) hvs)
/-- new tuples, new lists -/
@[simp] def dTup (ψ : DA) : DE := fun s R => ψ s fun ds s1 => ds.length ≤ 10000 ∧ R (.tup ds) s1
theorem e_tup {es : List Expr} {x1 pos} {ψ : DA} (h : EA M F es ψ) : ED M F (.Tuple es x1 pos) (dTup ψ) := by
  obtain ⟨t, p, a⟩ := h
  refine ⟨_, fun j => pe_tup (p j), fun s σ G H R Q rel h q => ?_⟩
  refine a s σ G H _ _ rel h fun ds s1 vs G1 H1 h1 r1 e1 hvs => ?_
  refine ⟨by rw [hvs.len, sizeLine_eq]; have := h1.1; omega, fun x hx => ?_⟩
  have eg := ex_new (o := .tup vs) (ex_none r1.ex hx)
  exact q _ _ _ _ _ h1.2 (r1.new hx) (e1.tr (.new r1 hx)) (.tup upd_at (Vds.mono eg hvs))
theorem Rel.fresh {s : S} {σ : L2.St} {G H : Hp} {a : Addr} (R : Rel M s σ G H) (ha : H a = none) : G a = none ∧ M.H0 a = none ∧ OwnOk M a ∧ ∀ (i : Nat) (es : OD), s.sl[i]? = some (.own es) → σ[i]? ≠ some (some (.ref a)) := by
  refine ⟨ex_none R.ex ha, ?_, ⟨fun p L e => (R.pen p L e).1.ne ha, R.tab.ne fun ps e => by rw [ha] at e; cases e⟩, fun i es h e => ?_⟩
  · cases q : M.H0 a with
    | none => rfl
    | some o =>
      have hp : Fr0 M a := ⟨fun p L e => ((R.pen p L e).1.ne ha).1, R.tab.ne fun ps e => by rw [ha] at e; cases e⟩
      have := (R.fr a (by rw [q]; exact fun z => nomatch z) hp).1
      rw [ha, q] at this
      cases this
  · obtain ⟨b, vs, e2, h3, _⟩ := R.getO h
    rw [e] at e2
    cases e2
    rw [ha] at h3
    cases h3
@[simp] def lLst (ψ : DA) : DA := fun s R => ψ s fun ds s1 => ds.length ≤ 10000 ∧ R ds s1
theorem l_lst {es : List Expr} {pos} {ψ : DA} (h : EA M F es ψ) : EL M F (.List es pos) (lLst ψ) := by
  obtain ⟨t, p, a⟩ := h
  refine ⟨_, fun j => pe_lst (p j), fun s σ G H R Q rel h q => ?_⟩
  refine a s σ G H _ _ rel h fun ds s1 vs G1 H1 h1 r1 e1 hvs => ?_
  refine ⟨by rw [hvs.len, sizeLine_eq]; have := h1.1; omega, fun x hx => ?_⟩
  obtain ⟨f1, f2, f3, f4⟩ := r1.fresh hx
  exact q _ _ _ _ _ _ h1.2 (r1.lay hx) (e1.tr (.lay hx)) hvs (e1.none rel r1 hx) upd_at f1 f2 f3 f4
/-- a new list that is kept for good -/
@[simp] def dFz (ψ : DA) : DE := fun s R => ψ s fun ds s1 => R (.lst ds) s1
theorem Rel.fix {s : S} {σ : L2.St} {G H : Hp} {a : Addr} {vs : List V} (R : Rel M s σ G H) (ha : H a = some (.lst vs)) (g : G a = none) (m : M.H0 a = none) (np : OwnOk M a) (no : ∀ (i : Nat) (es : OD), s.sl[i]? = some (.own es) → σ[i]? ≠ some (some (.ref a))) :
    Rel M s σ (upd G a (.lst vs)) H := by
  refine ⟨ex_fix' R.ex ha, fun b hb hn => ?_, fun p L e => ?_, ⟨tabs_keep R.tab.1 (fun _ _ e => e) (ex_new g), fun q hq => (upd_ne fun z => np.2 (by rw [← z]; exact hq)).trans (R.tab.2 q hq)⟩, R.len, fun i x ov h1 h2 => ?_, R.inj⟩
  · have ne : b ≠ a := fun z => hb (by rw [z]; exact m)
    exact ⟨(R.fr b hb hn).1, (upd_ne ne).trans (R.fr b hb hn).2⟩
  · exact ⟨(R.pen p L e).1, (upd_ne (np.1 p L e).1.symm).trans (R.pen p L e).2⟩
  · have h := R.sl i x ov h1 h2
    cases x with
    | no => exact h
    | d x =>
      obtain ⟨v, h2, h3⟩ := h
      exact ⟨v, h2, Vd.mono (ex_new g) h3⟩
    | own ds =>
      obtain ⟨b, us, k1, k2, k3, k4, k5, k6⟩ := h
      have ne : b ≠ a := fun z => no i ds h1 (by rw [h2, k1, z])
      exact ⟨b, us, k1, k2, k3.mono (ex_new g), (upd_ne ne).trans k4, k5, k6⟩
    | pen => exact h
theorem e_fz {e : Expr} {ψ : DA} (h : EL M F e ψ) : ED M F e (dFz ψ) := by
  obtain ⟨t, p, a⟩ := h
  refine ⟨t, p, fun s σ G H R Q rel h q => ?_⟩
  refine a s σ G H _ _ rel h fun ds s1 x vs G1 H1 h1 r1 e1 hvs hn hx f1 f2 f3 f4 => ?_
  have eg := ex_new (o := .lst vs) f1
  exact q _ _ _ _ _ h1 (r1.fix hx f1 f2 f3 f4) ⟨e1.ex.tr eg, fun b hb ho => ⟨(e1.old b hb ho).1, (upd_ne fun z => hb (by rw [z]; exact hn)).trans (e1.old b hb ho).2⟩, e1.own⟩ (.lst upd_at (Vds.mono eg hvs))
/-! ### operators -/
/-- what an operation does to data -/
abbrev DO := D → D → (D → Prop) → Prop
def OSound (r : R2) (ρ : DO) : Prop := ∀ (G H : Hp) (x y : V) (a b : D) (R : D → Prop) (Q : VK), Ex G H → Vd G x a → Vd G y b → ρ a b R →
  (∀ d v, R d → Vd G v d → Q v H) → (∀ d u p o, R d → H p = none → (∀ G', Ex G G' → G' p = some o → Vd G' (.ref p) d) → u = upd H p o → Q (.ref p) u) → r x y H Q
@[simp] def oI (C : Int → Int → Prop) (g : Int → Int → D) : DO := fun a b R => match a, b with
  | .int i, .int j => C i j ∧ R (g i j)
  | _, _ => False
theorem o_I {C : Int → Int → Prop} {g : Int → Int → V} {g' : Int → Int → D} (hg : ∀ i j G, Vd G (g i j) (g' i j)) : OSound (rI C g) (oI C g') := by
  intro G H x y a b R Q e hx hy h q _
  unfold oI at h
  split at h
  · rename_i i j
    cases hx
    cases hy
    exact ⟨i, j, rfl, rfl, h.1, q _ _ h.2 (hg i j G)⟩
  · exact h.elim
@[simp] def oI0 (g : Int → Int → D) : DO := fun a b R => match a, b with
  | .int i, .int j => R (g i j)
  | _, _ => False
theorem o_I0 {g : Int → Int → V} {g' : Int → Int → D} (hg : ∀ i j G, Vd G (g i j) (g' i j)) : OSound (rI0 g) (oI0 g') := by
  intro G H x y a b R Q e hx hy h q _
  unfold oI0 at h
  split at h
  · rename_i i j
    cases hx
    cases hy
    exact ⟨i, j, rfl, rfl, q _ _ h (hg i j G)⟩
  · exact h.elim
@[simp] def dOp (ρ : DO) (φ ψ : DE) : DE := fun s R => φ s fun a s1 => ψ s1 fun b s2 => ρ a b fun d => R d s2
theorem op_sound {t u : TE} {r : R2} {ρ : DO} {φ ψ : DE} (ho : OSound r ρ) (a : ESound M t φ) (b : ESound M u ψ) : ESound M (tOp r t u) (dOp ρ φ ψ) := by
  intro s σ G H R Q rel h q
  refine a s σ G H _ _ rel h fun d s1 v G1 H1 h1 r1 e1 hv => ?_
  refine b s1 σ G1 H1 _ _ r1 h1 fun d2 s2 v2 G2 H2 h2 r2 e2 hv2 => ?_
  refine ho G2 H2 v v2 d d2 _ _ r2.ex (Vd.mono e2.ex hv) hv2 h2 (fun x z hR hz => q _ _ _ _ _ hR r2 (e1.tr e2) hz) fun x u p o hR hp hz hu => ?_
  subst hu
  have eg := ex_new (o := o) (ex_none r2.ex hp)
  exact q _ _ _ _ _ hR (r2.new hp) (e1.tr (e2.tr (.new r2 hp))) (hz _ eg upd_at)
theorem e_op {op : Operator} {x y : Expr} {pos} {r : R2} {ρ : DO} {φ ψ : DE} (hr : ∀ j, OpR (F.X j) (binaryOp op) r) (ho : OSound r ρ) (h1 : ED M F x φ) (h2 : ED M F y ψ) : ED M F (.BinOp x op y pos) (dOp ρ φ ψ) := by
  obtain ⟨t, p, a⟩ := h1
  obtain ⟨u, p2, b⟩ := h2
  exact ⟨_, fun j => pe_op (hr j) (p j) (p2 j), op_sound ho a b⟩
theorem e_add {x y : Expr} {pos} {φ ψ : DE} (h1 : ED M F x φ) (h2 : ED M F y ψ) : ED M F (.BinOp x .Add y pos) (dOp (oI0 fun i j => .int (i + j)) φ ψ) := e_op (fun _ => op_add) (o_I0 fun _ _ _ => .int _) h1 h2
theorem e_sub {x y : Expr} {pos} {φ ψ : DE} (h1 : ED M F x φ) (h2 : ED M F y ψ) : ED M F (.BinOp x .Sub y pos) (dOp (oI0 fun i j => .int (i - j)) φ ψ) := e_op (fun _ => op_sub) (o_I0 fun _ _ _ => .int _) h1 h2
theorem e_mul {x y : Expr} {pos} {φ ψ : DE} (h1 : ED M F x φ) (h2 : ED M F y ψ) : ED M F (.BinOp x .Mult y pos) (dOp (oI CMul fun i j => .int (i * j)) φ ψ) := e_op (fun _ => op_mul) (o_I fun _ _ _ => .int _) h1 h2
theorem e_fdiv {x y : Expr} {pos} {φ ψ : DE} (h1 : ED M F x φ) (h2 : ED M F y ψ) : ED M F (.BinOp x .FloorDiv y pos) (dOp (oI CDiv fun i j => .int (i / j)) φ ψ) := e_op (fun _ => op_fdiv) (o_I fun _ _ _ => .int _) h1 h2
theorem e_mod {x y : Expr} {pos} {φ ψ : DE} (h1 : ED M F x φ) (h2 : ED M F y ψ) : ED M F (.BinOp x .Mod y pos) (dOp (oI (fun _ j => 0 < j) fun i j => .int (i % j)) φ ψ) := e_op (fun _ => op_mod) (o_I fun _ _ _ => .int _) h1 h2
/-! ### tests -/
theorem t_cmp {op : CmpOp} {x y : Expr} {pos} {r : R2} {ρ : DO} {φ ψ : DE} (hr : ∀ j, OpR (F.X j) (compareOp op) r) (ho : OSound r ρ) (h1 : ED M F x φ) (h2 : ED M F y ψ) (hm : behindInMarks op y = false) :
    ET M F (.Compare x [op] [y] pos) (fun s R => dOp ρ φ ψ s fun d s' => ∃ b, d = .bl b ∧ R b s') := by
  obtain ⟨t, p, a⟩ := h1
  obtain ⟨u, p2, b⟩ := h2
  refine ⟨_, fun j => pt_cmpR (hr j) (p j) (p2 j) hm, fun s σ G H R Q rel h q => ?_⟩
  refine op_sound ho a b s σ G H _ _ rel h fun d s' v G' H' h' r' e' hv => ?_
  obtain ⟨c, rfl, h'⟩ := h'
  cases hv
  exact ⟨c, rfl, q _ _ _ _ h' r' e'⟩
theorem e_cmp {op : CmpOp} {x y : Expr} {pos} {r : R2} {ρ : DO} {φ ψ : DE} (hr : ∀ j, OpR (F.X j) (compareOp op) r) (ho : OSound r ρ) (h1 : ED M F x φ) (h2 : ED M F y ψ) (hm : behindInMarks op y = false) : ED M F (.Compare x [op] [y] pos) (dOp ρ φ ψ) := by
  obtain ⟨t, p, a⟩ := h1
  obtain ⟨u, p2, b⟩ := h2
  exact ⟨_, fun j => pe_cmpR (hr j) (p j) (p2 j) hm, op_sound ho a b⟩
@[simp] def dIf (τ : DT) (φ ψ : DE) : DE := fun s R => τ s fun b s1 => if b = true then φ s1 R else ψ s1 R
theorem e_if {c x y : Expr} {pos} {τ : DT} {φ ψ : DE} (hc : ET M F c τ) (h1 : ED M F x φ) (h2 : ED M F y ψ) : ED M F (.IfExp c x y pos) (dIf τ φ ψ) := by
  obtain ⟨t, p, a⟩ := h1
  obtain ⟨u, p2, b⟩ := h2
  obtain ⟨v, p3, c⟩ := hc
  refine ⟨_, fun j => pe_ifExp (p3 j) (p j) (p2 j), fun s σ G H R Q rel h q => ?_⟩
  refine c s σ G H _ _ rel h fun d s1 G1 H1 h1 r1 e1 => ?_
  cases d with
  | true => exact a s1 σ G1 H1 _ _ r1 h1 fun d s2 v G2 H2 h2 r2 e2 hv => q _ _ _ _ _ h2 r2 (e1.tr e2) hv
  | false => exact b s1 σ G1 H1 _ _ r1 h1 fun d s2 v G2 H2 h2 r2 e2 hv => q _ _ _ _ _ h2 r2 (e1.tr e2) hv
end
end DL
namespace DL
open PySem PySem.Spec PyProof.Rows L2
/-! ### statements -/
structure DEn where
  nx : S → Prop
  rt : D → S → Prop
  bk : S → Prop := fun _ => False
  ct : S → Prop := fun _ => False
abbrev DS := S → DEn → Prop
structure EndsOk (M : Cm) (G0 : Hp) (E : DEn) (Dn : Ends) : Prop where
  nx : ∀ s σ G H, E.nx s → Rel M s σ G H → Ex G0 G → Dn.nx σ H
  rt : ∀ d s σ v G H, E.rt d s → Rel M s σ G H → Ex G0 G → Vd G v d → Dn.rt v H
  bk : ∀ s σ G H, E.bk s → Rel M s σ G H → Ex G0 G → Dn.bk σ H
  ct : ∀ s σ G H, E.ct s → Rel M s σ G H → Ex G0 G → Dn.ct σ H
theorem EndsOk.up {M : Cm} {G0 G1 : Hp} {E : DEn} {Dn : Ends} (e : EndsOk M G0 E Dn) (x : Ex G0 G1) : EndsOk M G1 E Dn :=
  ⟨fun s σ G H h r y => e.nx s σ G H h r (x.tr y), fun d s σ v G H h r y => e.rt d s σ v G H h r (x.tr y), fun s σ G H h r y => e.bk s σ G H h r (x.tr y), fun s σ G H h r y => e.ct s σ G H h r (x.tr y)⟩
def SSound (M : Cm) (t : TS) (ψ : DS) : Prop := ∀ (s : S) (σ : L2.St) (G H : Hp) (E : DEn) (Dn : Ends), Rel M s σ G H → ψ s E → EndsOk M G E Dn → t Dn σ H
def GSound (M : Cm) (vs : List Nat) (g : TG) (γ : D → S → (S → Prop) → Prop) : Prop := ∀ (v : V) (d : D) (s : S) (σ : L2.St) (G H : Hp) (R : S → Prop) (Q : L2.St → Hp → Prop), Rel M s σ G H → Vd G v d → γ d s R → (∀ s' σ', R s' → Rel M s' σ' G H → σ'.length = σ.length → (∀ j, j ∉ vs → σ'[j]? = σ[j]?) → Q σ' H) → g v σ H Q
section
variable {P : Program} {w : World} {K : PySem.W.Frag} {mg : Str → Option Value} {base : Heap} {k : Nat} {M : Cm} {F : Fam P w K mg base k}
variable (M F) in
def SD (st : Stmt) (ψ : DS) : Prop := ∃ t, (∀ i, PS (F.X i) st t) ∧ SSound M t ψ
variable (M F) in
def SDs (st : List Stmt) (ψ : DS) : Prop := ∃ t, (∀ i, PSs (F.X i) st t) ∧ SSound M t ψ
variable (M F) in
def GD (vs : List Nat) (tg : Expr) (γ : D → S → (S → Prop) → Prop) : Prop := ∃ g, (∀ i, PG (F.X i) tg g) ∧ GSound M vs g γ
@[simp] def dNext : DS := fun s E => E.nx s
@[simp] def dSeq (ψ χ : DS) : DS := fun s E => ψ s { E with nx := fun s1 => χ s1 E }
theorem s_nil : SDs M F [] dNext := ⟨_, fun _ => pss_nil, fun s σ G H E Dn rel h e => e.nx _ _ _ _ h rel (Ex.rf G)⟩
theorem seq_sound {t u : TS} {ψ χ : DS} (a : SSound M t ψ) (b : SSound M u χ) : SSound M (tSeq t u) (dSeq ψ χ) := fun s σ G H E Dn rel h e =>
  a s σ G H _ _ rel h ⟨fun s1 σ1 G1 H1 h1 r1 x1 => b s1 σ1 G1 H1 _ _ r1 h1 (e.up x1), e.rt, e.bk, e.ct⟩
theorem s_cons {st : Stmt} {rest : List Stmt} {ψ χ : DS} (h1 : SD M F st ψ) (h2 : SDs M F rest χ) : SDs M F (st :: rest) (dSeq ψ χ) := by
  obtain ⟨t, p, a⟩ := h1
  obtain ⟨u, p2, b⟩ := h2
  exact ⟨_, fun j => pss_cons (p j) (p2 j), seq_sound a b⟩
theorem s_one {st : Stmt} {ψ : DS} (h1 : SD M F st ψ) : SDs M F [st] ψ := by
  obtain ⟨t, p, a⟩ := h1
  exact ⟨t, fun j => pss_one (p j), a⟩
/-- name = value -/
@[simp] def dSet (i : Nat) (φ : DE) : DS := fun s E => φ s fun d s1 => E.nx (s1.set i (.d d))
theorem s_set {i : Nat} {st : Stmt} {e : Expr} {φ : DE} (he : ED M F e φ) (hs : ∀ t : TE, (∀ j, PE (F.X j) e t) → ∀ j, PS (F.X j) st (tAsg t (gName i))) : SD M F st (dSet i φ) := by
  obtain ⟨t, p, a⟩ := he
  refine ⟨_, hs t p, fun s σ G H E Dn rel h e => ?_⟩
  exact a s σ G H _ _ rel h fun d s1 v G1 H1 h1 r1 g1 hv => e.nx _ _ _ _ h1 (r1.setD hv) g1.ex
/-- name = a list of one's own -/
@[simp] def dOwn (i : Nat) (φ : DA) : DS := fun s E => φ s fun ds s1 => E.nx (s1.set i (.own (.l ds)))
theorem s_own {i : Nat} {st : Stmt} {e : Expr} {φ : DA} (he : EL M F e φ) (hs : ∀ t : TE, (∀ j, PE (F.X j) e t) → ∀ j, PS (F.X j) st (tAsg t (gName i))) : SD M F st (dOwn i φ) := by
  obtain ⟨t, p, a⟩ := he
  refine ⟨_, hs t p, fun s σ G H E Dn rel h e => ?_⟩
  refine a s σ G H _ _ rel h fun ds s1 x vs G1 H1 h1 r1 g1 hvs hn hx f1 f2 f3 f4 => ?_
  refine e.nx _ _ G1 _ h1 (r1.set ⟨x, _, rfl, hx, ⟨vs, rfl, hvs⟩, f1, f2, f3⟩ fun es b j fs e1 e2 nj hj => ?_) g1.ex
  cases e2
  exact f4 j fs hj
@[simp] def dRet (φ : DE) : DS := fun s E => φ s E.rt
theorem s_ret {e : Expr} {pos} {φ : DE} (he : ED M F e φ) : SD M F (.Return (some e) pos) (dRet φ) := by
  obtain ⟨t, p, a⟩ := he
  exact ⟨_, fun j => ps_ret (p j), fun s σ G H E Dn rel h e => a s σ G H _ _ rel h fun d s1 v G1 H1 h1 r1 g1 hv => e.rt _ _ _ _ _ _ h1 r1 g1.ex hv⟩
@[simp] def dIfS (τ : DT) (ψ χ : DS) : DS := fun s E => τ s fun b s1 => if b = true then ψ s1 E else χ s1 E
theorem s_if {c : Expr} {xs ys : List Stmt} {pos} {τ : DT} {ψ χ : DS} (hc : ET M F c τ) (h1 : SDs M F xs ψ) (h2 : SDs M F ys χ) : SD M F (.If c xs ys pos) (dIfS τ ψ χ) := by
  obtain ⟨t, p, a⟩ := h1
  obtain ⟨u, p2, b⟩ := h2
  obtain ⟨v, p3, c⟩ := hc
  refine ⟨_, fun j => ps_if (p3 j) (p j) (p2 j), fun s σ G H E Dn rel h e => ?_⟩
  refine c s σ G H _ _ rel h fun d s1 G1 H1 h1 r1 g1 => ?_
  cases d with
  | true => exact a s1 σ G1 H1 _ _ r1 h1 (e.up g1.ex)
  | false => exact b s1 σ G1 H1 _ _ r1 h1 (e.up g1.ex)
@[simp] def dExpr (φ : DE) : DS := fun s E => φ s fun _ s1 => E.nx s1
theorem s_expr {e : Expr} {pos} {φ : DE} (he : ED M F e φ) (hs : ∀ j, swapsWith e none pos.line (F.X j).env = pure false := by intro _; rfl) : SD M F (.Expr e pos) (dExpr φ) := by
  obtain ⟨t, p, a⟩ := he
  exact ⟨_, fun j => ps_expr (p j) (hs j), fun s σ G H E Dn rel h e => a s σ G H _ _ rel h fun d s1 v G1 H1 h1 r1 g1 hv => e.nx _ _ _ _ h1 r1 g1.ex⟩
theorem s_cont {pos} : SD M F (.Continue pos) (fun s E => E.ct s) := ⟨fun D σ H => D.ct σ H, fun j => ⟨fun pins s σ H D I h => wpAny_Continue ⟨σ, H, I, h⟩⟩, fun s σ G H E Dn rel h e => e.ct _ _ _ _ h rel (Ex.rf G)⟩
theorem s_break {pos} : SD M F (.Break pos) (fun s E => E.bk s) := ⟨fun D σ H => D.bk σ H, fun j => ⟨fun pins s σ H D I h => wpAny_Break ⟨σ, H, I, h⟩⟩, fun s σ G H E Dn rel h e => e.bk _ _ _ _ h rel (Ex.rf G)⟩
/-! ### targets -/
theorem g_name (i : Nat) {tg : Expr} (h : ∀ j, PG (F.X j) tg (gName i)) : GD M F [i] tg (fun d s R => R (s.set i (.d d))) := ⟨_, h, fun v d s σ G H R Q rel hv h q => q _ _ h (rel.setD hv) (by simp) fun j hj => by
  rw [List.getElem?_set, if_neg fun z => hj (by simp [z])]⟩
def GsSound (M : Cm) (vs : List Nat) (g : TGs) (γ : List D → S → (S → Prop) → Prop) : Prop := ∀ (us : List V) (ds : List D) (s : S) (σ : L2.St) (G H : Hp) (R : S → Prop) (Q : L2.St → Hp → Prop), Rel M s σ G H → Vds G us ds → γ ds s R → (∀ s' σ', R s' → Rel M s' σ' G H → σ'.length = σ.length → (∀ j, j ∉ vs → σ'[j]? = σ[j]?) → Q σ' H) → g us σ H Q
variable (M F) in
def GsD (vs : List Nat) (tgs : List Expr) (γ : List D → S → (S → Prop) → Prop) : Prop := ∃ g, (∀ i, PGs (F.X i) tgs g) ∧ GsSound M vs g γ
@[simp] def gsN : List D → S → (S → Prop) → Prop := fun ds s R => match ds with
  | [] => R s
  | _ => False
@[simp] def gsC (γ : D → S → (S → Prop) → Prop) (δ : List D → S → (S → Prop) → Prop) : List D → S → (S → Prop) → Prop := fun ds s R => match ds with
  | d :: ds => γ d s fun s1 => δ ds s1 R
  | _ => False
theorem gs_nil : GsD M F [] [] gsN := ⟨_, fun _ => pgs_nil, fun us ds s σ G H R Q rel hv h q => by
  unfold gsN at h
  split at h
  · cases hv
    exact ⟨rfl, q _ _ h rel rfl fun _ _ => rfl⟩
  · exact h.elim⟩
theorem gs_cons {vs ws : List Nat} {e : Expr} {es : List Expr} {γ : D → S → (S → Prop) → Prop} {δ : List D → S → (S → Prop) → Prop} (h1 : GD M F vs e γ) (h2 : GsD M F ws es δ)
    (hs : ∀ j, (assignEach (e :: es) (F.X j).env).map (·.2) = assign e (F.X j).env :: (assignEach es (F.X j).env).map (·.2) := by intro _; rfl) : GsD M F (vs ++ ws) (e :: es) (gsC γ δ) := by
  obtain ⟨t, p, a⟩ := h1
  obtain ⟨u, p2, b⟩ := h2
  refine ⟨_, fun j => pgs_cons (p j) (p2 j) (hs j), fun us ds s σ G H R Q rel hv h q => ?_⟩
  unfold gsC at h
  split at h
  · cases hv with
    | cons v1 v2 =>
      refine ⟨_, _, rfl, a _ _ s σ G H _ _ rel v1 h fun s1 σ1 h1 r1 l1 k1 => ?_⟩
      exact b _ _ s1 σ1 G H _ _ r1 v2 h1 fun s2 σ2 h2 r2 l2 k2 => q _ _ h2 r2 (l2.trans l1) fun j hj => by
        rw [List.mem_append] at hj
        exact (k2 j fun z => hj (.inr z)).trans (k1 j fun z => hj (.inl z))
  · exact h.elim
@[simp] def gTp (n : Nat) (δ : List D → S → (S → Prop) → Prop) : D → S → (S → Prop) → Prop := fun d s R => match d with
  | .tup ds => ds.length = n ∧ δ ds s R
  | _ => False
theorem g_tup {vs : List Nat} {es : List Expr} {kk : Nat} {pos : Pos} {δ : List D → S → (S → Prop) → Prop} (n : Nat) (h : GsD M F vs es δ) (hn : ∀ j, (assignEach es (F.X j).env).length = n := by intro _; rfl) (hst : ∀ j, (assignEach es (F.X j).env).findIdx? (·.1) = none := by intro _; rfl) :
    GD M F vs (.Tuple es kk pos) (gTp n δ) := by
  obtain ⟨t, p, a⟩ := h
  refine ⟨gTup K n t, fun j => by have := pg_tup (k := kk) (pos := pos) (F.hc j) (p j) (hn j) (hst j); rw [F.hK j] at this; exact this, fun v d s σ G H R Q rel hv h q => ?_⟩
  unfold gTp at h
  split at h
  · cases hv with
    | @tup x us ds hx hvs => exact ⟨x, us, rfl, .inl (.inl (rel.ex _ _ hx)), by rw [hvs.len]; exact h.1, a _ _ s σ G H _ _ rel hvs h.2 q⟩
  · exact h.elim
/-! ### what a loop goes over -/
/-- J tells the values of ds, one after the other, while G stands; a pair may be laid for it -/
def Over (J : It) (G : Hp) (ds : List D) : Prop := ∀ G' H', Ex G G' → Ex G' H' → (∀ i, i < ds.length → J.go i H' ∧ ∀ x H'', J.yld i H' x H'' → ∃ d, ds[i]? = some d ∧ ((H'' = H' ∧ Vd G' x d) ∨ ∃ T o, H' T = none ∧ H'' = upd H' T o ∧ Vd (upd G' T o) x d)) ∧ J.stop ds.length H'
theorem Over.step {M : Cm} {J : It} {G G' H' : Hp} {ds : List D} {s : S} {σ : L2.St} (ov : Over J G ds) (x : Ex G G') (r : Rel M s σ G' H') {i : Nat} (hi : i < ds.length) : J.go i H' ∧ ∀ v H'', J.yld i H' v H'' → ∃ d G'', ds[i]? = some d ∧ Rel M s σ G'' H'' ∧ Vd G'' v d ∧ Ex G' G'' ∧ ∀ b, H' b ≠ none → H'' b = H' b ∧ G'' b = G' b := by
  obtain ⟨q1, q2⟩ := (ov G' H' x r.ex).1 i hi
  refine ⟨q1, fun v H'' y => ?_⟩
  obtain ⟨d, hd, ⟨rfl, hv⟩ | ⟨T, o, hT, rfl, hv⟩⟩ := q2 v H'' y
  · exact ⟨d, G', hd, r, hv, Ex.rf _, fun _ _ => ⟨rfl, rfl⟩⟩
  · exact ⟨d, upd G' T o, hd, r.new hT, hv, ex_new (ex_none r.ex hT), fun b hb => new_old hT b hb⟩
def ISound (M : Cm) (wi : TI) (φ : DA) : Prop := ∀ (s : S) (σ : L2.St) (G H : Hp) (R : List D → S → Prop) (Q : It → Hp → Prop), Rel M s σ G H → φ s R → (∀ ds s' J G' H', R ds s' → Rel M s' σ G' H' → Go M σ s G H s' G' H' → Over J G' ds → Q J H') → wi σ H Q
theorem vds_at {G : Hp} {vs : List V} {ds : List D} (h : Vds G vs ds) {i : Nat} (hi : i < ds.length) : ∃ d, ds[i]? = some d ∧ ∃ v, vs[i]? = some v ∧ Vd G v d := by
  obtain ⟨v, e, hv⟩ := h.get (List.getElem?_eq_getElem hi)
  exact ⟨ds[i], List.getElem?_eq_getElem hi, v, e, hv⟩
theorem over_list {G : Hp} {a : Addr} {vs : List V} {ds : List D} (ha : G a = some (.lst vs)) (hv : Vds G vs ds) : Over (Itl K a) G ds := by
  intro G' H' e e2
  have q : SqL K H' a vs := .inl (.inl (e2 _ _ (e _ _ ha)))
  refine ⟨fun i hi => ?_, vs, q, by rw [hv.len]; exact Nat.le_refl _⟩
  obtain ⟨d, hd, v, hv1, hv2⟩ := vds_at hv hi
  refine ⟨⟨vs, v, q, hv1⟩, fun x H'' y => ⟨d, hd, .inl ?_⟩⟩
  obtain ⟨e1, y⟩ := y
  have := y vs q
  rw [hv1] at this
  cases this
  exact ⟨e1, Vd.mono e hv2⟩
theorem over_tup {G : Hp} {a : Addr} {vs : List V} {ds : List D} (ha : G a = some (.tup vs)) (hv : Vds G vs ds) : Over (Itt K a) G ds := by
  intro G' H' e e2
  have q : SqT K H' a vs := .inl (.inl (e2 _ _ (e _ _ ha)))
  refine ⟨fun i hi => ?_, vs, q, by rw [hv.len]; exact Nat.le_refl _⟩
  obtain ⟨d, hd, v, hv1, hv2⟩ := vds_at hv hi
  refine ⟨⟨vs, v, q, hv1⟩, fun x H'' y => ⟨d, hd, .inl ?_⟩⟩
  obtain ⟨e1, y⟩ := y
  have := y vs q
  rw [hv1] at this
  cases this
  exact ⟨e1, Vd.mono e hv2⟩
@[simp] def dLstOf (φ : DE) : DA := fun s R => φ s fun d s1 => match d with
  | .lst ds => R ds s1
  | _ => False
@[simp] def dTupOf (φ : DE) : DA := fun s R => φ s fun d s1 => match d with
  | .tup ds => R ds s1
  | _ => False
theorem i_list {t : TE} {φ : DE} (a : ESound M t φ) : ISound M (iList K t) (dLstOf φ) := by
  intro s σ G H R Q rel h q
  refine a s σ G H _ _ rel h fun d s1 v G1 H1 h1 r1 g1 hv => ?_
  split at h1
  · cases hv with
    | @lst x vs ds hx hvs => exact ⟨x, rfl, ⟨vs, .inl (.inl (r1.ex _ _ hx))⟩, q _ _ _ _ _ h1 r1 g1 (over_list hx hvs)⟩
  · exact h1.elim
theorem i_tup {t : TE} {φ : DE} (a : ESound M t φ) : ISound M (iTup K t) (dTupOf φ) := by
  intro s σ G H R Q rel h q
  refine a s σ G H _ _ rel h fun d s1 v G1 H1 h1 r1 g1 hv => ?_
  split at h1
  · cases hv with
    | @tup x vs ds hx hvs => exact ⟨x, rfl, ⟨vs, .inl (.inl (r1.ex _ _ hx))⟩, q _ _ _ _ _ h1 r1 g1 (over_tup hx hvs)⟩
  · exact h1.elim
variable (M F) in
def ID (tg e : Expr) (φ : DA) : Prop := ∃ wi, (∀ j, PI (F.X j) tg e wi) ∧ ISound M wi φ
theorem id_list {tg e : Expr} {φ : DE} (h : ED M F e φ) : ID M F tg e (dLstOf φ) := by
  obtain ⟨t, p, a⟩ := h
  exact ⟨iList K t, fun j => by have := pi_list (tg := tg) (p j); rw [F.hK j] at this; exact this, i_list a⟩
theorem id_tup {tg e : Expr} {φ : DE} (h : ED M F e φ) : ID M F tg e (dTupOf φ) := by
  obtain ⟨t, p, a⟩ := h
  exact ⟨iTup K t, fun j => by have := pi_tup (tg := tg) (p j); rw [F.hK j] at this; exact this, i_tup a⟩
/-- range(n) -/
@[simp] def rgD (n : Nat) : List D := (List.range n).map fun i => .int (Int.ofNat i)
@[simp] def dRng (ψ : DA) : DA := fun s R => ψ s fun ds s1 => match ds with
  | [.int n] => (-10000 ≤ n ∧ n ≤ 10000) ∧ R (rgD n.toNat) s1
  | _ => False
theorem over_rng {G : Hp} {n : Nat} : Over (Itr 0 n) G (rgD n) := by
  intro G' H' e e2
  have hl : (rgD n).length = n := by simp [rgD]
  rw [hl]
  refine ⟨fun i hi => ⟨hi, fun x H'' y => ⟨.int (Int.ofNat i), ?_, .inl ?_⟩⟩, Nat.le_refl _⟩
  · unfold rgD
    rw [List.getElem?_map, List.getElem?_range hi]
    rfl
  · obtain ⟨y1, y2⟩ := y
    subst y1 y2
    refine ⟨rfl, ?_⟩
    have ee : (0 + (i : Int)) = Int.ofNat i := Int.zero_add _
    rw [ee]
    exact .int _
theorem id_rng {tg a : Expr} {p pos : Pos} {ψ : DA} (h : EA M F [a] ψ) (hg : ∀ j, Gl (F.X j) "range") (hm : mg "range" = none) (hs : ∀ j, starEach [a] (F.X j).env = [(false, eval a (F.X j).env)] := by intro _; rfl) : ID M F tg (.Call (.Name "range" p) [a] [] pos) (dRng ψ) := by
  obtain ⟨t, q, b⟩ := h
  refine ⟨_, fun j => pi_range1 (hg j) (by rw [F.hm j]; exact hm) (q j) (hs j), fun s σ G H R Q rel h q => ?_⟩
  refine b s σ G H _ _ rel h fun ds s1 vs G1 H1 h1 r1 g1 hvs => ?_
  split at h1
  · rename_i n
    cases hvs with
    | cons a1 a2 =>
      cases a1
      cases a2
      exact ⟨n, rfl, by have := h1.1; omega, by have := h1.1; omega, q _ _ _ _ _ h1.2 r1 g1 over_rng⟩
  · exact h1.elim
/-! ### for -/
@[simp] def dForL (γ : D → S → (S → Prop) → Prop) (ψ : DS) (E : DEn) : List D → S → Prop
  | [], s => E.nx s
  | x :: xs, s => γ x s fun s1 => ψ s1 { nx := dForL γ ψ E xs, rt := E.rt, bk := E.nx, ct := dForL γ ψ E xs }
@[simp] def dFor (φ : DA) (γ : D → S → (S → Prop) → Prop) (ψ : DS) : DS := fun s E => φ s fun ds s1 => dForL γ ψ E ds s1
theorem for_sound {wi : TI} {g : TG} {tb : TS} {φ : DA} {γ : D → S → (S → Prop) → Prop} {ψ : DS} {ws : List Nat} (hi : ISound M wi φ) (hg : GSound M ws g γ) (hb : SSound M tb ψ) : SSound M (tFor wi g tb) (dFor φ γ ψ) := by
  intro s σ G H E Dn rel h e
  refine hi s σ G H _ _ rel h fun ds s1 J G1 H1 h1 r1 g1 ov => ?_
  refine ⟨fun i m σ H' => m = ds.length - i ∧ i ≤ ds.length ∧ ∃ s2 G2, Rel M s2 σ G2 H' ∧ Ex G1 G2 ∧ dForL γ ψ E (ds.drop i) s2, ⟨_, rfl, Nat.zero_le _, s1, G1, r1, Ex.rf G1, h1⟩, ?_⟩
  rintro i m σ' H' ⟨rfl, hi, s2, G2, r2, x2, h2⟩
  by_cases hlt : i < ds.length
  · obtain ⟨q1, q2⟩ := ov.step x2 r2 hlt
    refine .inr ⟨q1, fun σ' H' => ∃ s3 G3, Rel M s3 σ' G3 H' ∧ Ex G1 G3 ∧ dForL γ ψ E (ds.drop (i + 1)) s3, fun σ' H' ⟨s3, G3, r3, x3, h3⟩ => ⟨ds.length - (i + 1), by omega, rfl, hlt, s3, G3, r3, x3, h3⟩, fun x H'' y => ?_⟩
    obtain ⟨d, G2', hd, r2', hv, x2', _⟩ := q2 x H'' y
    have x2 := x2.tr x2'
    rw [List.drop_eq_getElem_cons hlt] at h2
    have ed : ds[i] = d := by
      rw [List.getElem?_eq_getElem hlt] at hd
      exact Option.some.inj hd
    rw [ed] at h2
    refine hg x d s2 σ' G2' _ _ _ r2' hv h2 fun s3 σ3 h3 r3 _ _ => ?_
    exact hb s3 σ3 G2' _ _ _ r3 h3 ⟨fun s4 σ4 G4 H4 h4 r4 x4 => ⟨s4, G4, r4, x2.tr x4, h4⟩, fun d s4 σ4 v G4 H4 h4 r4 x4 hv4 => e.rt _ _ _ _ _ _ h4 r4 (g1.ex.tr (x2.tr x4)) hv4,
      fun s4 σ4 G4 H4 h4 r4 x4 => e.nx _ _ _ _ h4 r4 (g1.ex.tr (x2.tr x4)), fun s4 σ4 G4 H4 h4 r4 x4 => ⟨s4, G4, r4, x2.tr x4, h4⟩⟩
  · have ei : i = ds.length := by omega
    subst ei
    rw [List.drop_length] at h2
    exact .inl ⟨(ov G2 H' x2 r2.ex).2, e.nx _ _ _ _ h2 r2 (g1.ex.tr x2)⟩
theorem s_for {vs : List Nat} {tg iter : Expr} {body : List Stmt} {pos : Pos} {φ : DA} {γ : D → S → (S → Prop) → Prop} {ψ : DS} (hp : ∀ j, PassesOwn (model (F.X j).prog (F.X j).w) (F.X j).A (F.X j).env (F.X j).xe) (hi : ID M F tg iter φ) (hg : GD M F vs tg γ) (hb : SDs M F body ψ)
    (hs : ∀ j x, foldedSetIterable iter (F.X j).env x = pure x := by intro _ _; rfl) : SD M F (.For tg iter body [] pos) (dFor φ γ ψ) := by
  obtain ⟨wi, p1, a⟩ := hi
  obtain ⟨g, p2, b⟩ := hg
  obtain ⟨tb, p3, c⟩ := hb
  exact ⟨_, fun j => ps_for (hp j) (F.hc j) (p1 j) (p2 j) (p3 j) (hs j), for_sound a b c⟩
end
end DL
namespace DL
open PySem PySem.Spec PyProof.Rows L2
/-! ### comprehensions -/
@[simp] def swipe (l : List Slot) : List Nat → List Slot
  | [] => l
  | v :: vs => (swipe l vs).set v .no
@[simp] def safeL (l : List Slot) (vs : List Nat) : Bool := vs.all fun i => match l[i]? with
  | some .no => true
  | some (.d _) => true
  | _ => false
theorem swipe_len (l : List Slot) : ∀ vs : List Nat, (swipe l vs).length = l.length
  | [] => rfl
  | v :: vs => by
    show ((swipe l vs).set v .no).length = _
    rw [List.length_set, swipe_len l vs]
theorem swipe_off (l : List Slot) : ∀ (vs : List Nat) (j : Nat), j ∉ vs → (swipe l vs)[j]? = l[j]?
  | [], _, _ => rfl
  | v :: vs, j, h => by
    show ((swipe l vs).set v .no)[j]? = _
    rw [List.getElem?_set, if_neg fun z => h (by rw [z]; exact List.mem_cons_self), swipe_off l vs j fun z => h (List.mem_cons_of_mem _ z)]
theorem wipe_off (l : L2.St) : ∀ (vs : List Nat) (j : Nat), j ∉ vs → (wipe l vs)[j]? = l[j]?
  | [], _, _ => rfl
  | v :: vs, j, h => by
    show ((wipe l vs).set v none)[j]? = _
    rw [List.getElem?_set, if_neg fun z => h (by rw [z]; exact List.mem_cons_self), wipe_off l vs j fun z => h (List.mem_cons_of_mem _ z)]
theorem wipe_on (l : L2.St) : ∀ (vs : List Nat) (j : Nat), j ∈ vs → j < l.length → (wipe l vs)[j]? = some none
  | v :: vs, j, h, hl => by
    show ((wipe l vs).set v none)[j]? = _
    rw [List.getElem?_set]
    by_cases e : v = j
    · rw [if_pos e, if_pos (by rw [wipe_length, e]; exact hl)]
    · rw [if_neg e]
      rcases List.mem_cons.mp h with z | z
      · exact absurd z.symm e
      · exact wipe_on l vs j z hl
theorem wipe_eq {a b : L2.St} {vs : List Nat} (hl : a.length = b.length) (h : ∀ j, j ∉ vs → a[j]? = b[j]?) : wipe a vs = wipe b vs := by
  refine List.ext_getElem? fun j => ?_
  by_cases hj : j ∈ vs
  · by_cases hl2 : j < a.length
    · rw [wipe_on a vs j hj hl2, wipe_on b vs j hj (by rw [← hl]; exact hl2)]
    · rw [List.getElem?_eq_none (by rw [wipe_length]; omega), List.getElem?_eq_none (by rw [wipe_length]; omega)]
  · rw [wipe_off a vs j hj, wipe_off b vs j hj, h j hj]
section
variable {M : Cm} {s : S} {σ : L2.St} {G H : Hp}
theorem Rel.wipe (R : Rel M s σ G H) : ∀ vs : List Nat, Rel M ⟨swipe s.sl vs, s.c⟩ (L2.wipe σ vs) G H
  | [] => R
  | v :: vs => (R.wipe vs).setN (i := v) (ov := none)
theorem safe_own {l : List Slot} {vs : List Nat} (h : safeL l vs = true) {i : Nat} {es : OD} (hi : l[i]? = some (.own es)) : i ∉ vs := fun z => by
  have := List.all_eq_true.mp h i z
  rw [hi] at this
  cases this
theorem Rel.back {s5 : S} {σ5 : L2.St} {G5 H5 : Hp} {vs : List Nat} (r : Rel M s σ G H) (r5 : Rel M s5 σ5 G5 H5) (hs : swipe s5.sl vs = swipe s.sl vs) (safe : safeL s.sl vs = true) (hl : σ5.length = σ.length) (ho : ∀ j, j ∉ vs → σ5[j]? = σ[j]?) (ex : Ex G G5) : Rel M ⟨s.sl, s5.c⟩ σ G5 H5 := by
  have off : ∀ j, j ∉ vs → s5.sl[j]? = s.sl[j]? := fun j hj => by rw [← swipe_off s5.sl vs j hj, hs, swipe_off s.sl vs j hj]
  refine ⟨r5.ex, r5.fr, r5.pen, r5.tab, r.len, fun i x ov h1 h2 => ?_, fun i j ds es a h1 h2 h3 h4 => ?_⟩
  · by_cases hi : i ∈ vs
    · have h1 : s.sl[i]? = some x := h1
      have sf := List.all_eq_true.mp safe i hi
      have k := r.sl i x ov h1 h2
      rw [h1] at sf
      cases x with
      | no => exact True.intro
      | d x =>
        obtain ⟨v, k1, k2⟩ := k
        exact ⟨v, k1, Vd.mono ex k2⟩
      | own ds => cases sf
      | pen => cases sf
    · exact r5.sl i x ov ((off i hi).trans h1) ((ho i hi).trans h2)
  · have n1 := safe_own safe h1
    have n2 := safe_own safe h2
    exact r5.inj i j ds es a ((off i n1).trans h1) ((off j n2).trans h2) ((ho i n1).trans h3) ((ho j n2).trans h4)
end
section
variable {P : Program} {w : World} {K : PySem.W.Frag} {mg : Str → Option Value} {base : Heap} {k : Nat} {M : Cm} {F : Fam P w K mg base k}
def Fam.blk (F : Fam P w K mg base k) (scope : Scope) : Fam P w K mg base k where
  ι := F.ι × Shared × Hp × Addr × List (Str × Addr) × List Addr
  X := fun q => (F.X q.1).blk q.2.1 q.2.2.1 scope (compEnvC scope q.2.2.2.2.1 q.2.2.2.1 (F.X q.1).env) q.2.2.2.2.2
  hP := fun q => F.hP q.1
  hw := fun q => F.hw q.1
  hK := fun q => F.hK q.1
  hm := fun q => F.hm q.1
  hb := fun q => F.hb q.1
  hr := fun q => F.hr q.1
  hG := fun q => F.hG q.1
  hc := fun q => F.hc q.1
  E := fun _ _ _ => False
  hx := fun q => by
    have h := passes_call (X := (F.X q.1).blk q.2.1 q.2.2.1 scope (compEnvC scope q.2.2.2.2.1 q.2.2.2.1 (F.X q.1).env) q.2.2.2.2.2) (E := fun _ _ _ => False) (W := fun _ _ _ _ => False) LamX.takes0 fun _ _ _ _ z => z
    rw [F.hP q.1, F.hw q.1] at h
    exact h
variable (M F) in
def ETs (ifs : List Expr) (τ : DT) : Prop := ∃ t, (∀ i, PTs (F.X i) ifs t) ∧ TSound M t τ
@[simp] def dYes : DT := fun s R => R true s
theorem ts_nil : ETs M F [] dYes := ⟨_, fun _ => pts_nil, fun s σ G H R Q rel h q => q _ _ _ _ h rel Go.rf⟩
theorem ts_one {c : Expr} {τ : DT} (h : ET M F c τ) : ETs M F [c] τ := by
  obtain ⟨t, p, a⟩ := h
  exact ⟨t, fun j => pts_one (p j), a⟩
@[simp] def lcL (vs : List Nat) (γ : D → S → (S → Prop) → Prop) (τ : DT) (ε : DE) (R : List D → S → Prop) (sl : List Slot) : List D → List D → Int → Prop
  | acc, [], c => R acc ⟨sl, c⟩
  | acc, x :: xs, c => γ x ⟨swipe sl vs, c⟩ fun s2 => safeL s2.sl vs = true ∧ swipe s2.sl vs = swipe sl vs ∧ τ s2 fun b s3 => s3.sl = s2.sl ∧
      if b = true then ε s3 fun y s4 => s4.sl = s2.sl ∧ acc.length < 10000 ∧ lcL vs γ τ ε R sl (acc ++ [y]) xs s4.c else lcL vs γ τ ε R sl acc xs s3.c
@[simp] def dLc (vs : List Nat) (φ : DA) (γ : D → S → (S → Prop) → Prop) (τ : DT) (ε : DE) : DA := fun s R => φ s fun ds s1 => safeL s1.sl vs = true ∧ lcL vs γ τ ε R s1.sl [] ds s1.c
theorem lc_sound {vs : List Nat} {wi : TI} {g : TG} {tt : TT} {te : TE} {φ : DA} {γ : D → S → (S → Prop) → Prop} {τ : DT} {ε : DE} (hi : ISound M wi φ) (hg : GSound M vs g γ) (ht : TSound M tt τ) (he : ESound M te ε) : LSound M (tLc wi g tt te vs) (dLc vs φ γ τ ε) := by
  intro s σ G H R Q rel h q
  refine hi s σ G H _ _ rel h fun ds s1 J G1 H1 h1 r1 g1 ov D hD => ?_
  obtain ⟨safe, h1⟩ := h1
  obtain ⟨f1, f2, f3, f4⟩ := r1.fresh hD
  refine ⟨fun i m H' => m = ds.length - i ∧ i ≤ ds.length ∧ ∃ c G2 acc vacc, Rel M ⟨s1.sl, c⟩ σ G2 H' ∧ Ex G1 G2 ∧ (∀ b, H1 b ≠ none → Out M s1 σ b → H' b = H1 b ∧ G2 b = G1 b) ∧ H' D = some (.lst vacc) ∧ Vds G2 vacc acc ∧ G2 D = none ∧ lcL vs γ τ ε R s1.sl acc (ds.drop i) c,
    ⟨_, rfl, Nat.zero_le _, s1.c, G1, [], [], r1.lay hD, Ex.rf G1, fun b hb _ => lay_old hD b hb, upd_at, .nil, f1, h1⟩, ?_⟩
  rintro i m H' ⟨rfl, hi, c, G2, acc, vacc, r2, x2, old, hD', hacc, gD, h2⟩
  by_cases hlt : i < ds.length
  · obtain ⟨q1, q2⟩ := ov.step x2 r2 hlt
    refine .inr ⟨q1, fun H' => ∃ c G2 acc vacc, Rel M ⟨s1.sl, c⟩ σ G2 H' ∧ Ex G1 G2 ∧ (∀ b, H1 b ≠ none → Out M s1 σ b → H' b = H1 b ∧ G2 b = G1 b) ∧ H' D = some (.lst vacc) ∧ Vds G2 vacc acc ∧ G2 D = none ∧ lcL vs γ τ ε R s1.sl acc (ds.drop (i + 1)) c,
      fun H' hh => ⟨ds.length - (i + 1), by omega, rfl, hlt, hh⟩, fun x H'' y => ?_⟩
    obtain ⟨d, G2', hd, r2', hv, x2', old'⟩ := q2 x H'' y
    have oldD := old' D (by rw [hD']; exact fun z => nomatch z)
    replace old : ∀ b, H1 b ≠ none → Out M s1 σ b → H'' b = H1 b ∧ G2' b = G1 b := fun b hb ho => by
      obtain ⟨e1, e2⟩ := old b hb ho
      obtain ⟨e3, e4⟩ := old' b (by rw [e1]; exact hb)
      exact ⟨e3.trans e1, e4.trans e2⟩
    replace hD' := oldD.1.trans hD'
    replace gD := oldD.2.trans gD
    replace hacc := Vds.mono x2' hacc
    replace x2 := x2.tr x2'
    clear old' oldD q2 r2
    have r2 := r2'
    clear r2' x2'
    rw [List.drop_eq_getElem_cons hlt] at h2
    have ed : ds[i] = d := by
      rw [List.getElem?_eq_getElem hlt] at hd
      exact Option.some.inj hd
    rw [ed] at h2
    have rw2 := r2.wipe vs
    refine hg x d _ _ G2' _ _ _ rw2 hv h2 fun s3 σ3 h3 r3 l3 k3 => ?_
    have l3' : σ3.length = σ.length := by rw [l3, wipe_length]
    have k3' : ∀ j, j ∉ vs → σ3[j]? = σ[j]? := fun j hj => (k3 j hj).trans (wipe_off σ vs j hj)
    obtain ⟨sf, sw, h3⟩ := h3
    -- nothing of one's own in s3 is D, or new
    have ow : ∀ (i : Nat) (es : OD), s3.sl[i]? = some (.own es) → s1.sl[i]? = some (.own es) ∧ σ3[i]? = σ[i]? := fun i es e => by
      have nv := safe_own sf e
      rw [← swipe_off s3.sl vs i nv, sw, swipe_off s1.sl vs i nv] at e
      exact ⟨e, k3' i nv⟩
    have outD : Out M s3 σ3 D := ⟨f3.fr, fun i es e z => by
      obtain ⟨e1, e2⟩ := ow i es e
      exact f4 i es e1 (e2.symm.trans z)⟩
    have outT : ∀ b, Out M s1 σ b → Out M s3 σ3 b := fun b hb => ⟨hb.1, fun i es e z => by
      obtain ⟨e1, e2⟩ := ow i es e
      exact hb.2 i es e1 (e2.symm.trans z)⟩
    refine ⟨wipe_eq l3' k3', ?_⟩
    refine ht s3 σ3 G2' _ _ _ r3 h3 fun b s4 G4 H4 h4 r4 g4 => ?_
    have D4 := g4.old D (by rw [hD']; exact fun z => nomatch z) outD
    have old4 : ∀ b, H1 b ≠ none → Out M s1 σ b → H4 b = H1 b ∧ G4 b = G1 b := fun b hb ho => by
      obtain ⟨e1, e2⟩ := old b hb ho
      obtain ⟨e3, e4⟩ := g4.old b (by rw [e1]; exact hb) (outT b ho)
      exact ⟨e3.trans e1, e4.trans e2⟩
    obtain ⟨s4e, h4⟩ := h4
    cases b with
    | false =>
      rw [if_neg (by decide)] at h4 ⊢
      exact ⟨s4.c, G4, acc, vacc, r2.back r4 (by rw [s4e]; exact sw) safe l3' k3' g4.ex, x2.tr g4.ex, old4, D4.1.trans hD', Vds.mono g4.ex hacc, D4.2.trans gD, h4⟩
    | true =>
      rw [if_pos rfl] at h4 ⊢
      refine he s4 σ3 G4 H4 _ _ r4 h4 fun y s5 v G5 H5 h5 r5 g5 hv5 => ?_
      obtain ⟨s5e, la, h5⟩ := h5
      have outD4 : Out M s4 σ3 D := ⟨outD.1, fun i es e => outD.2 i es (by rw [← s4e]; exact e)⟩
      have D5 := g5.old D (by rw [D4.1, hD']; exact fun z => nomatch z) outD4
      have D5H := D5.1.trans (D4.1.trans hD')
      have D5G := D5.2.trans (D4.2.trans gD)
      have e45 := g4.ex.tr g5.ex
      have r6 : Rel M ⟨s1.sl, s5.c⟩ σ G5 H5 := r2.back r5 (by rw [s5e]; exact sw) safe l3' k3' e45
      refine ⟨vacc, D5H, by rw [hacc.len, sizeLine_eq]; omega, s5.c, G5, acc ++ [y], vacc ++ [v], ?_, x2.tr e45, fun b hb ho => ?_, upd_at, (Vds.mono e45 hacc).snoc hv5, D5G, h5⟩
      · -- the new list is no part of the state
        refine ⟨ex_put r6.ex D5G, fun b hb hn => ?_, fun p L e => ?_, ⟨tabs_keep r6.tab.1 (fun b ps e => (upd_ne fun z => by
          rw [z, D5H] at e
          cases e).trans e) (Ex.rf _), r6.tab.2⟩, r6.len, fun i x ov e1 e2 => ?_, r6.inj⟩
        · have ne : b ≠ D := fun z => hb (by rw [z]; exact f2)
          exact ⟨(upd_ne ne).trans (r6.fr b hb hn).1, (r6.fr b hb hn).2⟩
        · exact ⟨(r6.pen p L e).1.put (f3.1 p L e).1 (f3.1 p L e).2, (r6.pen p L e).2⟩
        · have kk := r6.sl i x ov e1 e2
          cases x with
          | no => exact kk
          | d x => exact kk
          | own es =>
            obtain ⟨a, ws, w1, w2, w3⟩ := kk
            have ne : a ≠ D := fun z => f4 i es e1 (by rw [e2, w1, z])
            exact ⟨a, ws, w1, (upd_ne ne).trans w2, w3⟩
          | pen => exact kk
      · obtain ⟨e1, e2⟩ := old4 b hb ho
        obtain ⟨e3, e4⟩ := g5.old b (by rw [e1]; exact hb) ⟨ho.1, fun i es e z => (outT b ho).2 i es (by rw [← s4e]; exact e) z⟩
        have ne : b ≠ D := fun z => hb (by rw [z]; exact hD)
        exact ⟨(upd_ne ne).trans (e3.trans e1), e4.trans e2⟩
  · have ei : i = ds.length := by omega
    subst ei
    rw [List.drop_length] at h2
    exact .inl ⟨(ov G2 H' x2 r2.ex).2, q _ _ _ _ _ _ h2 r2 (g1.tr ⟨x2, old, fun _ => Iff.rfl⟩) hacc (g1.none rel r1 hD) hD' gD f2 f3 f4⟩
theorem l_lc {own : List (Str × Nat)} {tg iter elt : Expr} {ifs : List Expr} {scope : Scope} {pos : Pos} {φ : DA} {γ : D → S → (S → Prop) → Prop} {τ : DT} {ε : DE} (ok : ∀ j, BlkOk (F.X j).N (F.X j).env.scope scope own) (hN : ∀ j, (F.X j).N.Nodup)
    (hi : ID M F tg iter φ) (hg : GD M (F.blk scope) (own.map (·.2)) tg γ) (ht : ETs M (F.blk scope) ifs τ) (he : ED M (F.blk scope) elt ε) (hs : ∀ j x, foldedSetIterable iter (F.X j).env x = pure x := by intro _ _; rfl) :
    EL M F (.ListComp elt [⟨tg, iter, ifs, 0⟩] scope pos) (dLc (own.map (·.2)) φ γ τ ε) := by
  obtain ⟨wi, p1, a⟩ := hi
  obtain ⟨g, p2, b⟩ := hg
  obtain ⟨tt, p3, c⟩ := ht
  obtain ⟨te, p4, d⟩ := he
  exact ⟨_, fun j => pe_lc (F.hc j) (hN j) (p1 j) (ok j) (fun s H C cl fp => p2 (j, s, H, C, cl, fp)) (fun s H C cl fp => p3 (j, s, H, C, cl, fp)) (fun s H C cl fp => p4 (j, s, H, C, cl, fp)) (hs j), lc_sound a b c d⟩
end
end DL
namespace DL
open PySem PySem.Spec PyProof.Rows L2
/-! ### defs -/
/-- an exception: its class, its fields -/
structure DX where
  C : Addr
  ns : List Str
  ds : List D
def XOk (G H : Hp) (cls : Value) (d : Option Addr) (x : DX) : Prop := cls = .ref x.C ∧ ∃ dx vs, d = some dx ∧ H dx = some (.xd (x.ns.zip vs).reverse) ∧ x.ns.length = vs.length ∧ Vds G vs x.ds
structure FrOk (M : Cm) (c : Int) (G H : Hp) : Prop where
  g : Ex M.G0 G
  ex : Ex G H
  fr : ∀ b, M.H0 b ≠ none → Fr0 M b → H b = M.H0 b ∧ G b = M.G0 b
  pen : ∀ p L, M.pen = some (p, L) → PenAt H p L c ∧ G p = none
  tab : TabOk M G H
def penA : Option (Addr × Addr) → List V
  | none => []
  | some (p, _) => [.ref p]
abbrev DFn := List D → Int → (D → Int → Prop) → (DX → Int → Prop) → Prop
def XS (M : Cm) (E : XK) (RX : DX → Int → Prop) : Prop := ∀ x c cls d G H, RX x c → FrOk M c G H → XOk G H cls d x → E cls d H
def spF (hp : Bool) (T : List (Addr × Str)) (Φ : DFn) : Sp := fun vs H Q E => ∃ (M : Cm) (us : List V) (ds : List D) (c : Int) (R : D → Int → Prop) (RX : DX → Int → Prop), M.H0 = H ∧ M.pen.isSome = hp ∧ M.tabs = T ∧ vs = penA M.pen ++ us ∧ FrOk M c M.G0 H ∧ Vds M.G0 us ds ∧ Φ ds c R RX ∧
  (∀ d c' v G' H', R d c' → FrOk M c' G' H' → Vd G' v d → Q v H') ∧ XS M E RX
section
variable {P : Program} {w : World} {K : PySem.W.Frag} {mg : Str → Option Value} {base : Heap} {k : Nat} {M : Cm} {F : Fam P w K mg base k}
/-- at the begin: what is not for good -/
structure Nice (M : Cm) : Prop where
  ex : Ex M.G0 M.H0
  pen : ∀ p L, M.pen = some (p, L) → M.G0 p = none
  tab : ∀ q ∈ M.tabs.map (·.1), M.G0 q = none
theorem Rel.frOk {s : S} {σ : L2.St} {G H : Hp} (R : Rel M s σ G H) (n : Nice M) : FrOk M s.c G H := by
  refine ⟨fun b o e => ?_, R.ex, R.fr, R.pen, R.tab⟩
  have f : Fr0 M b := ⟨fun p L h z => (by rw [z, n.pen p L h] at e; cases e), fun z => (by rw [n.tab b z] at e; cases e)⟩
  exact (R.fr b (by rw [n.ex b o e]; exact fun z => nomatch z) f).2.trans e
theorem FrOk.nice {c : Int} (f : FrOk M c M.G0 M.H0) : Nice M := ⟨f.ex, fun p L e => (f.pen p L e).2, f.tab.2⟩
/-- a def under a call: the state behind it -/
theorem Rel.called {s : S} {σ : L2.St} {G H G' H' : Hp} {M' : Cm} {c' : Int} (R : Rel M s σ G H) (hG : M'.G0 = G) (hH : M'.H0 = H) (hpn : (M'.pen = none ∧ M'.tabs = []) ∨ (M'.pen = M.pen ∧ M'.tabs = M.tabs ∧ M.pen ≠ none)) (f : FrOk M' c' G' H') :
    Rel M ⟨s.sl, if M'.pen = none then s.c else c'⟩ σ G' H' ∧ Go M σ s G H ⟨s.sl, if M'.pen = none then s.c else c'⟩ G' H' := by
  have old : ∀ b, H b ≠ none → Fr0 M b → H' b = H b ∧ G' b = G b := fun b hb hn => by
    have := f.fr b (by rw [hH]; exact hb) (by
      rcases hpn with ⟨z, z2⟩ | ⟨z, z2, _⟩
      · exact ⟨fun p L e => (by rw [z] at e; cases e), (by rw [z2]; simp)⟩
      · exact ⟨fun p L e => hn.1 p L (by rw [← z]; exact e), (by rw [z2]; exact hn.2)⟩)
    rw [hH, hG] at this
    exact this
  have eg : Ex G G' := by rw [← hG]; exact f.g
  rcases hpn with ⟨z, z2⟩ | ⟨z, z2, z3⟩
  · -- all stands
    have all : ∀ b, H b ≠ none → H' b = H b ∧ G' b = G b := fun b hb => by
      have := f.fr b (by rw [hH]; exact hb) ⟨fun p L e => (by rw [z] at e; cases e), (by rw [z2]; simp)⟩
      rw [hH, hG] at this
      exact this
    have eh : Ex H H' := fun b o e => (all b (by rw [e]; exact fun z => nomatch z)).1.trans e
    rw [if_pos z]
    refine ⟨R.go eg old f.ex (fun p L e => ?_) (R.tab.ex R.ex eh fun b hb => (all b hb).2), eg, fun b hb ho => old b hb ho.1, fun _ => Iff.rfl⟩
    obtain ⟨h1, h2⟩ := R.pen p L e
    have hp : H p ≠ none := by
      obtain ⟨ns, a1, a2, a3, a4, a5, _⟩ := h1
      rw [a5]
      exact fun z => nomatch z
    exact ⟨h1.ex eh, (all p hp).2.trans h2⟩
  · rw [if_neg (by rw [z]; exact z3)]
    refine ⟨R.go eg old f.ex (fun p L e => f.pen p L (by rw [z]; exact e)) ⟨by rw [← z2]; exact f.tab.1, by rw [← z2]; exact f.tab.2⟩, eg, fun b hb ho => old b hb ho.1, fun _ => Iff.rfl⟩
/-- f(e, ..), f without a pen -/
@[simp] def dCall (Φ : DFn) (RX : DX → Int → Prop) (ψ : DA) : DE := fun s R => ψ s fun ds s1 => Φ ds 0 (fun d _ => R d s1) fun x _ => RX x s1.c
theorem e_call {kf : Nat} {f : Addr} {fd : FuncData} {ps : List Str} {Φ : DFn} {x : Str} {p pos : Pos} {e : Expr} {es : List Expr} {ψ : DA} {RX : DX → Int → Prop} (Fn : Gd.FnG P w K mg base (L2.CX P w) kf f fd ps (spF false [] Φ)) (hk : kf ≤ k) (hm : mg x = some (.ref f)) (kp : PySem.W.keepIn K (.ref f) = true)
    (hb : Binds K fd ps []) (hE : XS M F.E RX) (ni : Nice M) (ha : EA M F (e :: es) ψ) (hg : ∀ j, Gl (F.X j) x) (hdb : (x == ("__debug__" : Str)) = false := by decide)
    (he : ∀ j, starEach (e :: es) (F.X j).env = (false, eval e (F.X j).env) :: starEach es (F.X j).env := by intro _; rfl) (hpl : ∀ j, (backTo pos (starEach es (F.X j).env)).any (·.1) = false := by intro _; rfl) : ED M F (.Call (.Name x p) (e :: es) [] pos) (dCall Φ RX ψ) := by
  obtain ⟨t, q, a⟩ := ha
  refine ⟨tCall (spF false [] Φ) [] F.E t, fun j => ?_, fun s σ G H R Q rel h q => ?_⟩
  · have Fn' : Gd.FnG (F.X j).prog (F.X j).w (F.X j).K (F.X j).mg (F.X j).base (L2.CX P w) kf f fd ps (spF false [] Φ) := by rw [F.hP j, F.hw j, F.hK j, F.hm j, F.hb j]; exact Fn
    exact Gd.pe_callG Fn' ((F.hr j).mono hk) (F.hG j) (hg j) (by rw [F.hm j]; exact hm) (by rw [F.hK j]; exact kp) (by rw [F.hK j]; exact hb) .nil (F.hx j) (q j) hdb (he j) (hpl j)
  · refine a s σ G H _ _ rel h fun ds s1 vs G1 H1 h1 r1 g1 hvs => ?_
    refine ⟨⟨none, G1, H1, []⟩, vs, ds, 0, _, _, rfl, rfl, rfl, by simp [penA], ⟨Ex.rf _, r1.ex, fun b _ _ => ⟨rfl, rfl⟩, fun p L e => (by cases e), ⟨fun p hp => (by cases hp), fun q hq => (by cases hq)⟩⟩, hvs, h1, fun d c' v G' H' hd fo hv => ?_, fun y c cls d G' H' hy fo xo => ?_⟩
    · obtain ⟨r2, g2⟩ := r1.called (M' := ⟨none, G1, H1, []⟩) rfl rfl (.inl ⟨rfl, rfl⟩) fo
      exact q _ _ _ _ _ hd r2 (g1.tr g2) hv
    · obtain ⟨r2, g2⟩ := r1.called (M' := ⟨none, G1, H1, []⟩) rfl rfl (.inl ⟨rfl, rfl⟩) fo
      exact hE y _ cls d G' H' hy (r2.frOk ni) xo
/-- f(pen, e, ..) -/
@[simp] def dCallP (i : Nat) (Φ : DFn) (RX : DX → Int → Prop) (ψ : DA) : DE := fun s R => (match s.sl[i]? with
  | some .pen => True
  | _ => False) ∧ ψ s fun ds s1 => Φ ds s1.c (fun d c' => R d ⟨s1.sl, c'⟩) RX
theorem e_callP {T : List (Addr × Str)} {kf : Nat} {f : Addr} {fd : FuncData} {ps : List Str} {Φ : DFn} {x : Str} {p pos : Pos} {e : Expr} {es : List Expr} {ψ : DA} {RX : DX → Int → Prop} (i : Nat) (Fn : Gd.FnG P w K mg base (L2.CX P w) kf f fd ps (spF true T Φ)) (hk : kf ≤ k) (hm : mg x = some (.ref f)) (kp : PySem.W.keepIn K (.ref f) = true)
    (hb : Binds K fd ps []) (hE : XS M F.E RX) (ni : Nice M) (hT : M.tabs = T) (hpe : ∀ j, PE (F.X j) e (tVar i)) (ha : EA M F es ψ) (hg : ∀ j, Gl (F.X j) x) (hdb : (x == ("__debug__" : Str)) = false := by decide)
    (he : ∀ j, starEach (e :: es) (F.X j).env = (false, eval e (F.X j).env) :: starEach es (F.X j).env := by intro _; rfl) (hpl : ∀ j, (backTo pos (starEach es (F.X j).env)).any (·.1) = false := by intro _; rfl) : ED M F (.Call (.Name x p) (e :: es) [] pos) (dCallP i Φ RX ψ) := by
  obtain ⟨t, q, a⟩ := ha
  refine ⟨tCall (spF true T Φ) [] F.E (tCons (tVar i) t), fun j => ?_, fun s σ G H R Q rel h q => ?_⟩
  · have Fn' : Gd.FnG (F.X j).prog (F.X j).w (F.X j).K (F.X j).mg (F.X j).base (L2.CX P w) kf f fd ps (spF true T Φ) := by rw [F.hP j, F.hw j, F.hK j, F.hm j, F.hb j]; exact Fn
    exact Gd.pe_callG Fn' ((F.hr j).mono hk) (F.hG j) (hg j) (by rw [F.hm j]; exact hm) (by rw [F.hK j]; exact kp) (by rw [F.hK j]; exact hb) .nil (F.hx j) (pa_cons (hpe j) (q j) (he j)) hdb (he j) (hpl j)
  · obtain ⟨hs, h⟩ := h
    split at hs
    · rename_i hi
      obtain ⟨p, L, ep, es⟩ := rel.getP hi
      refine ⟨_, es, ?_⟩
      refine a s σ G H _ _ rel h fun ds s1 vs G1 H1 h1 r1 g1 hvs => ?_
      refine ⟨⟨some (p, L), G1, H1, M.tabs⟩, vs, ds, s1.c, _, _, rfl, rfl, hT, by simp [penA], ⟨Ex.rf _, r1.ex, fun b _ _ => ⟨rfl, rfl⟩, fun p' L' e => r1.pen p' L' (by rw [ep]; exact e), ⟨r1.tab.1, r1.tab.2⟩⟩, hvs, h1, fun d c' v G' H' hd fo hv => ?_, fun y c cls d G' H' hy fo xo => ?_⟩
      · obtain ⟨r2, g2⟩ := r1.called (M' := ⟨some (p, L), G1, H1, M.tabs⟩) rfl rfl (.inr ⟨ep.symm, rfl, by rw [ep]; exact fun z => nomatch z⟩) fo
        exact q _ _ _ _ _ hd r2 (g1.tr g2) hv
      · obtain ⟨r2, g2⟩ := r1.called (M' := ⟨some (p, L), G1, H1, M.tabs⟩) rfl rfl (.inr ⟨ep.symm, rfl, by rw [ep]; exact fun z => nomatch z⟩) fo
        exact hE y _ cls d G' H' hy (r2.frOk ni) xo
    · exact hs.elim
/-! ### a def's body -/
def Fam.one (X : Cx) (E : XK) (h : X.prog = P ∧ X.w = w ∧ X.K = K ∧ X.mg = mg ∧ X.base = base) (hr : Room k X.A) (hG : X.A.guards = some []) (hc : X.calm = true) (hx : Passes (L2.CX P w) X E) : Fam P w K mg base k where
  ι := Unit
  X := fun _ => X
  hP := fun _ => h.1
  hw := fun _ => h.2.1
  hK := fun _ => h.2.2.1
  hm := fun _ => h.2.2.2.1
  hb := fun _ => h.2.2.2.2
  hr := fun _ => hr
  hG := fun _ => hG
  hc := fun _ => hc
  E := E
  hx := fun _ => hx
/-- the context of a def's body -/
abbrev bodyX (P : Program) (w : World) (K : PySem.W.Frag) (mg : Str → Option Value) (base : Heap) (N : List Str) (qual : Str) (scope : Scope) (f : Addr) (cdv : Value) (A : Around) (outer : List Env) (s : Shared) (H : Hp) (E : XK) : Cx := cxOf (L2.CX P w) P w K mg base N qual scope f cdv A outer s H E
theorem body_takes {N : List Str} {qual : Str} {scope : Scope} {f : Addr} {cdv : Value} {A : Around} {outer : List Env} {s : Shared} {H : Hp} {E : XK} : Takes (bodyX P w K mg base N qual scope f cdv A outer s H E) (fun cls d _ H => E cls d H) := takes_of rfl rfl rfl rfl
theorem body_passes {N : List Str} {qual : Str} {scope : Scope} {f : Addr} {cdv : Value} {A : Around} {outer : List Env} {s : Shared} {H : Hp} {E : XK} : Passes (L2.CX P w) (bodyX P w K mg base N qual scope f cdv A outer s H E) E := passes_call body_takes fun _ _ _ _ z => z
theorem body_own {N : List Str} {qual : Str} {scope : Scope} {f : Addr} {cdv : Value} {A : Around} {outer : List Env} {s : Shared} {H : Hp} {E : XK} : PassesOwn (model P w) (bodyX P w K mg base N qual scope f cdv A outer s H E).A (bodyX P w K mg base N qual scope f cdv A outer s H E).env (bodyX P w K mg base N qual scope f cdv A outer s H E).xe := passes_of (X := bodyX P w K mg base N qual scope f cdv A outer s H E) rfl
abbrev bodyF (P : Program) (w : World) (K : PySem.W.Frag) (mg : Str → Option Value) (base : Heap) (k : Nat) (N : List Str) (qual : Str) (scope : Scope) (f : Addr) (cdv : Value) (A : Around) (outer : List Env) (s : Shared) (H : Hp) (E : XK) (hr : Room k (A.deeper (envOfC qual scope s.heap.objs.size f cdv))) (hG : A.guards = some []) : Fam P w K mg base k :=
  Fam.one (bodyX P w K mg base N qual scope f cdv A outer s H E) E ⟨rfl, rfl, rfl, rfl, rfl⟩ hr hG rfl body_passes
/-- the slots at the begin -/
@[simp] def slots0 (hp : Bool) (n : Nat) (ds : List D) : List Slot := (if hp then [.pen] else []) ++ ds.map .d ++ List.replicate (n - (if hp then 1 else 0) - ds.length) .no
inductive Al (M : Cm) (G H : Hp) : List Slot → L2.St → Prop
  | nil : Al M G H [] []
  | cons {x : Slot} {ov : Option V} {xs : List Slot} {σ : L2.St} : SlOk M G H x ov → (∀ es, x ≠ .own es) → Al M G H xs σ → Al M G H (x :: xs) (ov :: σ)
theorem Al.app {G H : Hp} : ∀ {xs ys : List Slot} {σ τ : L2.St}, Al M G H xs σ → Al M G H ys τ → Al M G H (xs ++ ys) (σ ++ τ)
  | _, _, _, _, .nil, h => h
  | _, _, _, _, .cons a b c, h => .cons a b (c.app h)
theorem Al.len {G H : Hp} : ∀ {xs : List Slot} {σ : L2.St}, Al M G H xs σ → xs.length = σ.length
  | _, _, .nil => rfl
  | _, _, .cons _ _ c => congrArg Nat.succ c.len
theorem Al.get {G H : Hp} : ∀ {xs : List Slot} {σ : L2.St}, Al M G H xs σ → ∀ (i : Nat) (x : Slot) (ov : Option V), xs[i]? = some x → σ[i]? = some ov → SlOk M G H x ov ∧ ∀ es, x ≠ .own es
  | _, _, .nil, i, x, ov, h, _ => by cases h
  | _, _, .cons a b c, 0, x, ov, h, k => by
    cases h
    cases k
    exact ⟨a, b⟩
  | _, _, .cons a b c, i + 1, x, ov, h, k => c.get i x ov h k
theorem al_d {G H : Hp} : ∀ {ds : List D} {us : List V}, Vds G us ds → Al M G H (ds.map .d) (us.map some)
  | _, _, .nil => .nil
  | _, _, .cons h t => .cons ⟨_, rfl, h⟩ (fun _ e => nomatch e) (al_d t)
theorem al_no {G H : Hp} : ∀ n : Nat, Al M G H (List.replicate n .no) (List.replicate n none)
  | 0 => .nil
  | n + 1 => .cons True.intro (fun _ e => nomatch e) (al_no n)
theorem rel0 {N : List Str} {us : List V} {ds : List D} {c : Int} {hp : Bool} (f : FrOk M c M.G0 M.H0) (hpen : M.pen.isSome = hp) (hv : Vds M.G0 us ds) : Rel M ⟨slots0 hp N.length ds, c⟩ (L2.start N (penA M.pen ++ us)) M.G0 M.H0 := by
  have al : Al M M.G0 M.H0 (slots0 hp N.length ds) (L2.start N (penA M.pen ++ us)) := by
    unfold slots0 L2.start
    rw [List.map_append]
    cases q : M.pen with
    | none =>
      rw [q] at hpen
      subst hpen
      have e : N.length - (if (none : Option (Addr × Addr)).isSome = true then 1 else 0) - ds.length = N.length - (penA (none : Option (Addr × Addr)) ++ us).length := by simp [penA, hv.len]
      rw [e]
      exact Al.app (Al.app .nil (al_d hv)) (al_no _)
    | some pl =>
      obtain ⟨p, L⟩ := pl
      rw [q] at hpen
      subst hpen
      have e : N.length - (if (some (p, L) : Option (Addr × Addr)).isSome = true then 1 else 0) - ds.length = N.length - (penA (some (p, L)) ++ us).length := by simp [penA, hv.len]; omega
      rw [e]
      exact Al.app (Al.app (.cons ⟨p, L, q, rfl⟩ (fun _ e => nomatch e) .nil) (al_d hv)) (al_no _)
  exact ⟨f.ex, f.fr, f.pen, f.tab, al.len, fun i x ov h1 h2 => (al.get i x ov h1 h2).1, fun i j ds es a h1 h2 h3 h4 => absurd rfl ((al.get i _ _ h1 h3).2 ds)⟩
theorem fn_of {x qual : Str} {params : Arguments} {body : List Stmt} {scope : Scope} {f : Addr} {fd : FuncData} {N ps : List Str} {hp : Bool} {T : List (Addr × Str)} {Φ : DFn} (Fd : FunD K x qual params body scope [] [] f fd) (Sc : FnScope N ps scope) (hl : ∀ ds c R RX, Φ ds c R RX → ds.length + (if hp then 1 else 0) = ps.length)
    (hb : ∀ (cdv : Value) (A : Around) (outer : List Env) (s : Shared) (H : Hp) (E : XK) (hr : Room k (A.deeper (envOfC qual scope s.heap.objs.size f cdv))) (hG : A.guards = some []) (M : Cm) (RX : DX → Int → Prop), M.H0 = H → M.pen.isSome = hp → M.tabs = T → Nice M → XS M E RX →
      ∃ ψ, SDs M (bodyF P w K mg base k N qual scope f cdv A outer s H E hr hG) body ψ ∧ ∀ ds c R, Φ ds c R RX → ψ ⟨slots0 hp N.length ds, c⟩ { nx := fun s => R .non s.c, rt := fun d s => R d s.c }) :
    Gd.FnG P w K mg base (L2.CX P w) (k + 1) f fd ps (spF hp T Φ) := by
  refine Gd.fnG_of Fd Sc (fun vs H Q E h => ?_) (fun cdv A outer s H vs Q E hr hG h => ?_)
  · obtain ⟨M, us, ds, c, R, RX, h1, h2, ht, rfl, h4, h5, h6, _⟩ := h
    rw [← hl ds c R RX h6, List.length_append, h5.len]
    cases q : M.pen with
    | none => rw [q] at h2; subst h2; simp [penA]
    | some p => rw [q] at h2; subst h2; simp [penA]; omega
  · obtain ⟨M, us, ds, c, R, RX, h1, h2, ht, rfl, h4, h5, h6, h7, h8⟩ := h
    subst h1
    obtain ⟨ψ, ⟨t, p, a⟩, pure_⟩ := hb cdv A outer s M.H0 E hr hG M RX rfl h2 ht (FrOk.nice (c := c) h4) h8
    refine ⟨t, p (), a _ _ M.G0 M.H0 _ _ (rel0 h4 h2 h5) (pure_ ds c R h6) ⟨fun s σ G H hh r x => ?_, fun d s σ v G H hh r x hv => ?_, fun _ _ _ _ z => z.elim, fun _ _ _ _ z => z.elim⟩⟩
    · exact h7 _ _ _ _ _ hh (r.frOk (FrOk.nice (c := c) h4)) .non
    · exact h7 _ _ _ _ _ hh (r.frOk (FrOk.nice (c := c) h4)) hv
end
end DL
namespace DL
open PySem PySem.Spec PyProof.Rows L2
def rSumT (K : PySem.W.Frag) : List V → Hp → VK → Prop := fun vs H Q => ∃ (a : Addr) (ns : List Int), vs = [V.ref a] ∧ SqT K H a (ns.map V.int) ∧ Q (.int ns.sum) H
theorem sum_raw_tup {prog : Program} {w : World} {A : Around} {E : Value → Shared → Prop} {s : Shared} {l : Addr} {its : List Value} {ns : List Int} {Q : Value → Shared → Prop} (hh : A.handled = none) (hl : Heap.IsTuple s.heap l its.toArray) (hi : IntsAre its ns)
    (h : ∀ h' tk t', (∀ b o, s.heap.get? b = some o → h'.get? b = some o) → Q (.int ns.sum t') { s with heap := h', toks := tk }) : wpAny (model prog w) A (call (.builtin "sum") [.ref l]) Q E s := by
  obtain ⟨xs, e⟩ := hi.allInts.items
  have hn : numsOf (intItems xs).toList = ns := by rw [← e]; exact hi.numsOf
  rw [nums_intItems] at hn
  rw [e] at hl
  have lt : l < s.heap.objs.size := by obtain ⟨_, e, _⟩ := hl; exact Heap.lt_size e
  refine call_sum_walkG (wpAny_pyIter_tuple hl ?_)
  refine ⟨_, _, _, _, _, _, numAt xs, rfl, Walks.tuple (A := A.in1) hh s.heap.objs.size l (Nat.ne_of_lt lt) (intItems xs), ⟨⟨_, Heap.get?_push_size _ rfl, rfl, rfl⟩, hl.push _⟩, fun b hb => ?_, (fun _ _ => intItems_at), fun h' tk t' hk => ?_⟩
  · show b < (s.heap.push _).objs.size
    rw [Heap.size_push]
    rcases List.mem_cons.mp hb with rfl | hb
    · exact Nat.lt_succ_self _
    · rcases List.mem_cons.mp hb with rfl | hb
      · exact Nat.lt_succ_of_lt lt
      · cases hb
  · have := h h' tk t' (fun b o e => hk b o (fun hm => by
      rcases List.mem_cons.mp hm with e1 | hm
      · exact absurd (e1 ▸ Heap.lt_size e) (Nat.lt_irrefl _)
      · cases hm) (Heap.get?_push_of_some _ e))
    have e2 : preSum (numAt xs) (intItems xs).size = ns.sum := by
      rw [preSum_eq, List.take_of_length_le (by simp [intItems]), hn]
    rw [e2]
    exact this
theorem cr_sumT {X : Cx} (hc : X.calm = true) : CallR X (.builtin "sum") (rSumT X.K) := by
  intro pins s σ H vs us Q I r h
  obtain ⟨a, ns, rfl, hs, q⟩ := h
  obtain ⟨its, rv, hl, _⟩ := I.tuple hs
  rw [Vals.ref1 r]
  exact sum_raw_tup (I.ok.hd hc) hl rv.ints fun h' tk t' hk => ⟨.int _, H, I.kept hk, ⟨_, rfl⟩, q⟩
section
variable {P : Program} {w : World} {K : PySem.W.Frag} {mg : Str → Option Value} {base : Heap} {k : Nat} {M : Cm} {F : Fam P w K mg base k}
/-! ### tests -/
@[simp] def tBool (φ : DE) : DT := fun s R => φ s fun d s1 => match d with
  | .bl b => R b s1
  | _ => False
theorem t_val {e : Expr} {φ : DE} (h : ED M F e φ) (he : ∀ j whole, isTrue e (F.X j).env whole = (do let v ← whole; standAt e.pos; holding [v] (truthy v)) := by intro _ _; rfl) : ET M F e (tBool φ) := by
  obtain ⟨t, p, a⟩ := h
  refine ⟨_, fun j => pt_val (p j) (he j), fun s σ G H R Q rel h q => ?_⟩
  refine a s σ G H _ _ rel h fun d s1 v G1 H1 h1 r1 g1 hv => ?_
  split at h1
  · cases hv
    exact ⟨_, rfl, q _ _ _ _ h1 r1 g1⟩
  · exact h1.elim
@[simp] def tNotD (τ : DT) : DT := fun s R => τ s fun b s1 => R (!b) s1
theorem t_not {e : Expr} {pos} {τ : DT} (h : ET M F e τ) : ET M F (.UnaryOp .Not e pos) (tNotD τ) := by
  obtain ⟨t, p, a⟩ := h
  exact ⟨_, fun j => pt_not (p j), fun s σ G H R Q rel h q => a s σ G H _ _ rel h fun b s1 G1 H1 h1 r1 g1 => q _ _ _ _ h1 r1 g1⟩
variable (M F) in
def EW (e : Expr) (τ : DT) : Prop := ∃ t, (∀ i, PW (F.X i) e t) ∧ TSound M t τ
@[simp] def tAndD (τ υ : DT) : DT := fun s R => τ s fun b s1 => if b = true then υ s1 R else R false s1
@[simp] def tOrD (τ υ : DT) : DT := fun s R => τ s fun b s1 => if b = true then R true s1 else υ s1 R
theorem w_and1 {e : Expr} {pos} {τ : DT} (h : ET M F e τ) : EW M F (.BoolOp .And [e] pos) τ := by
  obtain ⟨t, p, a⟩ := h
  exact ⟨_, fun j => pw_and1 (p j), a⟩
theorem w_or1 {e : Expr} {pos} {τ : DT} (h : ET M F e τ) : EW M F (.BoolOp .Or [e] pos) τ := by
  obtain ⟨t, p, a⟩ := h
  exact ⟨_, fun j => pw_or1 (p j), a⟩
theorem w_and {e b : Expr} {rest : List Expr} {pos} {τ υ : DT} (h1 : ET M F e τ) (h2 : EW M F (.BoolOp .And (b :: rest) pos) υ) : EW M F (.BoolOp .And (e :: b :: rest) pos) (tAndD τ υ) := by
  obtain ⟨t, p, a⟩ := h1
  obtain ⟨u, p2, b⟩ := h2
  refine ⟨_, fun j => pw_and (p j) (p2 j), fun s σ G H R Q rel h q => ?_⟩
  refine a s σ G H _ _ rel h fun c s1 G1 H1 h1 r1 g1 => ?_
  cases c with
  | true => exact b s1 σ G1 H1 _ _ r1 h1 fun b s2 G2 H2 h2 r2 g2 => q _ _ _ _ h2 r2 (g1.tr g2)
  | false => exact q _ _ _ _ h1 r1 g1
theorem w_or {e b : Expr} {rest : List Expr} {pos} {τ υ : DT} (h1 : ET M F e τ) (h2 : EW M F (.BoolOp .Or (b :: rest) pos) υ) : EW M F (.BoolOp .Or (e :: b :: rest) pos) (tOrD τ υ) := by
  obtain ⟨t, p, a⟩ := h1
  obtain ⟨u, p2, b⟩ := h2
  refine ⟨_, fun j => pw_or (p j) (p2 j), fun s σ G H R Q rel h q => ?_⟩
  refine a s σ G H _ _ rel h fun c s1 G1 H1 h1 r1 g1 => ?_
  cases c with
  | false => exact b s1 σ G1 H1 _ _ r1 h1 fun b s2 G2 H2 h2 r2 g2 => q _ _ _ _ h2 r2 (g1.tr g2)
  | true => exact q _ _ _ _ h1 r1 g1
theorem t_w {e : Expr} {τ : DT} (h : EW M F e τ) : ET M F e τ := by
  obtain ⟨t, p, a⟩ := h
  exact ⟨_, fun j => PW.pt (p j), a⟩
/-! ### and, or, not as values -/
@[simp] def dAnd (φ ψ : DE) : DE := fun s R => φ s fun d s1 => match d with
  | .bl true => ψ s1 R
  | .bl false => R (.bl false) s1
  | _ => False
@[simp] def dOr (φ ψ : DE) : DE := fun s R => φ s fun d s1 => match d with
  | .bl true => R (.bl true) s1
  | .bl false => ψ s1 R
  | _ => False
@[simp] def dNot (φ : DE) : DE := fun s R => φ s fun d s1 => match d with
  | .bl b => R (.bl (!b)) s1
  | _ => False
theorem e_one {op} {e : Expr} {pos} {φ : DE} (h : ED M F e φ) : ED M F (.BoolOp op [e] pos) φ := by
  obtain ⟨t, p, a⟩ := h
  exact ⟨t, fun j => pe_one (p j), a⟩
theorem e_and {e b : Expr} {rest : List Expr} {pos} {φ ψ : DE} (h1 : ED M F e φ) (h2 : ED M F (.BoolOp .And (b :: rest) pos) ψ) : ED M F (.BoolOp .And (e :: b :: rest) pos) (dAnd φ ψ) := by
  obtain ⟨t, p, a⟩ := h1
  obtain ⟨u, p2, b⟩ := h2
  refine ⟨_, fun j => pe_and (p j) (p2 j), fun s σ G H R Q rel h q => ?_⟩
  refine a s σ G H _ _ rel h fun d s1 v G1 H1 h1 r1 g1 hv => ?_
  split at h1
  · cases hv
    exact ⟨true, rfl, by rw [if_pos rfl]; exact b s1 σ G1 H1 _ _ r1 h1 fun d s2 v G2 H2 h2 r2 g2 hv => q _ _ _ _ _ h2 r2 (g1.tr g2) hv⟩
  · cases hv
    exact ⟨false, rfl, by rw [if_neg (by decide)]; exact q _ _ _ _ _ h1 r1 g1 (.bl false)⟩
  · exact h1.elim
theorem e_or {e b : Expr} {rest : List Expr} {pos} {φ ψ : DE} (h1 : ED M F e φ) (h2 : ED M F (.BoolOp .Or (b :: rest) pos) ψ) : ED M F (.BoolOp .Or (e :: b :: rest) pos) (dOr φ ψ) := by
  obtain ⟨t, p, a⟩ := h1
  obtain ⟨u, p2, b⟩ := h2
  refine ⟨_, fun j => pe_or (p j) (p2 j), fun s σ G H R Q rel h q => ?_⟩
  refine a s σ G H _ _ rel h fun d s1 v G1 H1 h1 r1 g1 hv => ?_
  split at h1
  · cases hv
    exact ⟨true, rfl, by rw [if_pos rfl]; exact q _ _ _ _ _ h1 r1 g1 (.bl true)⟩
  · cases hv
    exact ⟨false, rfl, by rw [if_neg (by decide)]; exact b s1 σ G1 H1 _ _ r1 h1 fun d s2 v G2 H2 h2 r2 g2 hv => q _ _ _ _ _ h2 r2 (g1.tr g2) hv⟩
  · exact h1.elim
theorem e_not {e : Expr} {pos} {φ : DE} (h : ED M F e φ) : ED M F (.UnaryOp .Not e pos) (dNot φ) := by
  obtain ⟨t, p, a⟩ := h
  refine ⟨_, fun j => pe_not (p j), fun s σ G H R Q rel h q => ?_⟩
  refine a s σ G H _ _ rel h fun d s1 v G1 H1 h1 r1 g1 hv => ?_
  split at h1
  · cases hv
    exact ⟨_, rfl, q _ _ _ _ _ h1 r1 g1 (.bl _)⟩
  · exact h1.elim
/-! ### a <= b < c of ints -/
@[simp] def dChain (f g : Int → Int → Bool) (φ ψ χ : DE) : DE := fun s R => φ s fun a s1 => ψ s1 fun b s2 => match a, b with
  | .int i, .int j => if f i j = true then χ s2 fun c s3 => match c with
    | .int l => R (.bl (g j l)) s3
    | _ => False else R (.bl false) s2
  | _, _ => False
theorem chain_sound {t u v : TE} {f g : Int → Int → Bool} {φ ψ χ : DE} (a : ESound M t φ) (b : ESound M u ψ) (c : ESound M v χ) : ESound M (tChain (rI0 fun i j => .bl (f i j)) (rI0 fun i j => .bl (g i j)) t u v) (dChain f g φ ψ χ) := by
  intro s σ G H R Q rel h q
  refine a s σ G H _ _ rel h fun d s1 v1 G1 H1 h1 r1 g1 hv1 => ?_
  refine b s1 σ G1 H1 _ _ r1 h1 fun d2 s2 v2 G2 H2 h2 r2 g2 hv2 => ?_
  split at h2
  · rename_i i j
    cases hv1
    cases hv2
    refine ⟨i, j, rfl, rfl, f i j, rfl, ?_⟩
    split at h2
    · rename_i hf
      rw [if_pos hf]
      refine c s2 σ G2 H2 _ _ r2 h2 fun d3 s3 v3 G3 H3 h3 r3 g3 hv3 => ?_
      split at h3
      · cases hv3
        exact ⟨_, _, rfl, rfl, q _ _ _ _ _ h3 r3 (g1.tr (g2.tr g3)) (.bl _)⟩
      · exact h3.elim
    · rename_i hf
      rw [if_neg hf]
      exact q _ _ _ _ _ h2 r2 (g1.tr g2) (.bl _)
  · exact h2.elim
theorem e_chain {op op' : CmpOp} {x y z : Expr} {pos} {f g : Int → Int → Bool} {φ ψ χ : DE} (ho : ∀ j, OpR (F.X j) (compareOp op) (rI0 fun i j => .bl (f i j))) (ho' : ∀ j, OpR (F.X j) (compareOp op') (rI0 fun i j => .bl (g i j))) (h1 : ED M F x φ) (h2 : ED M F y ψ) (h3 : ED M F z χ)
    (hm : lastMarks [op, op'] [y, z] = false := by with_unfolding_all rfl) : ED M F (.Compare x [op, op'] [y, z] pos) (dChain f g φ ψ χ) := by
  obtain ⟨t, p, a⟩ := h1
  obtain ⟨u, p2, b⟩ := h2
  obtain ⟨v, p3, c⟩ := h3
  exact ⟨_, fun j => pe_chain (ho j) (ho' j) (p j) (p2 j) (p3 j) hm, chain_sound a b c⟩
theorem t_chain {op op' : CmpOp} {x y z : Expr} {pos} {f g : Int → Int → Bool} {φ ψ χ : DE} (ho : ∀ j, OpR (F.X j) (compareOp op) (rI0 fun i j => .bl (f i j))) (ho' : ∀ j, OpR (F.X j) (compareOp op') (rI0 fun i j => .bl (g i j))) (h1 : ED M F x φ) (h2 : ED M F y ψ) (h3 : ED M F z χ)
    (hm : lastMarks [op, op'] [y, z] = false := by with_unfolding_all rfl) : ET M F (.Compare x [op, op'] [y, z] pos) (tBool (dChain f g φ ψ χ)) := by
  obtain ⟨t, p, a⟩ := h1
  obtain ⟨u, p2, b⟩ := h2
  obtain ⟨v, p3, c⟩ := h3
  refine ⟨_, fun j => pt_chain (ho j) (ho' j) (p j) (p2 j) (p3 j) hm, fun s σ G H R Q rel h q => ?_⟩
  refine chain_sound a b c s σ G H _ _ rel h fun d s1 v1 G1 H1 h1 r1 g1 hv => ?_
  split at h1
  · cases hv
    exact ⟨_, rfl, q _ _ _ _ h1 r1 g1⟩
  · exact h1.elim
/-! ### x[i] -/
theorem vds_atI {G : Hp} {vs : List V} {ds : List D} {i : Int} {d : D} (h : Vds G vs ds) (e : atI ds i = some d) : ∃ v, atI vs i = some v ∧ Vd G v d := by
  unfold atI at e ⊢
  rw [h.len]
  cases q : ixN ds.length i with
  | none => rw [q] at e; cases e
  | some j =>
    rw [q] at e
    exact h.get e
@[simp] def oIx : DO := fun a b R => match a, b with
  | .tup ds, .int i => ∃ d, atI ds i = some d ∧ R d
  | .lst ds, .int i => ∃ d, atI ds i = some d ∧ R d
  | _, _ => False
theorem o_ixT : OSound (rIxT K) (fun a b R => match a, b with
  | .tup ds, .int i => ∃ d, atI ds i = some d ∧ R d
  | _, _ => False) := by
  intro G H x y a b R Q e hx hy h q _
  split at h
  · obtain ⟨d, h1, h2⟩ := h
    cases hy
    cases hx with
    | @tup p vs ds hp hv =>
      obtain ⟨v, e1, hv'⟩ := vds_atI hv h1
      exact ⟨p, vs, _, v, rfl, rfl, .inl (.inl (e _ _ hp)), e1, q _ _ h2 hv'⟩
  · exact h.elim
theorem o_ix : OSound (fun x y H Q => rIxT K x y H Q ∨ rIxL K x y H Q) oIx := by
  intro G H x y a b R Q e hx hy h q _
  unfold oIx at h
  split at h
  · obtain ⟨d, h1, h2⟩ := h
    cases hy
    cases hx with
    | @tup p vs ds hp hv =>
      obtain ⟨v, e1, hv'⟩ := vds_atI hv h1
      exact .inl ⟨p, vs, _, v, rfl, rfl, .inl (.inl (e _ _ hp)), e1, q _ _ h2 hv'⟩
  · obtain ⟨d, h1, h2⟩ := h
    cases hy
    cases hx with
    | @lst p vs ds hp hv =>
      obtain ⟨v, e1, hv'⟩ := vds_atI hv h1
      exact .inr ⟨p, vs, _, v, rfl, rfl, .inl (.inl (e _ _ hp)), e1, q _ _ h2 hv'⟩
  · exact h.elim
theorem ix_both {X : Cx} : IxR X (fun x y H Q => rIxT X.K x y H Q ∨ rIxL X.K x y H Q) := IxR.or ix_tup ix_list
theorem e_ix {x y : Expr} {pos} {φ ψ : DE} (h1 : ED M F x φ) (h2 : ED M F y ψ) (hs : PlainIx y := by intro _ _; rfl) : ED M F (.Subscript x y pos) (dOp oIx φ ψ) := by
  obtain ⟨t, p, a⟩ := h1
  obtain ⟨u, p2, b⟩ := h2
  exact ⟨_, fun j => by have := pe_ix (pos := pos) (ix_both (X := F.X j)) (p j) (p2 j) hs; rw [F.hK j] at this; exact this, op_sound o_ix a b⟩
/-! ### calls of builtins -/
def CSound (r : List V → Hp → VK → Prop) (ρ : List D → (D → Prop) → Prop) : Prop := ∀ (G H : Hp) (xs : List V) (ds : List D) (R : D → Prop) (Q : VK), Ex G H → Vds G xs ds → ρ ds R →
  (∀ d v, R d → Vd G v d → Q v H) → (∀ d u p o, R d → H p = none → (∀ G', Ex G G' → G' p = some o → Vd G' (.ref p) d) → u = upd H p o → Q (.ref p) u) → r xs H Q
@[simp] def dCB (ρ : List D → (D → Prop) → Prop) (ψ : DA) : DE := fun s R => ψ s fun ds s1 => ρ ds fun d => R d s1
theorem cb_sound {t : TA} {r : List V → Hp → VK → Prop} {ρ : List D → (D → Prop) → Prop} {ψ : DA} (hr : CSound r ρ) (a : ASound M t ψ) : ESound M (tCB r t) (dCB ρ ψ) := by
  intro s σ G H R Q rel h q
  refine a s σ G H _ _ rel h fun ds s1 vs G1 H1 h1 r1 e1 hvs => ?_
  refine hr G1 H1 vs ds _ _ r1.ex hvs h1 (fun d v hR hv => q _ _ _ _ _ hR r1 e1 hv) fun d u p o hR hp hz hu => ?_
  subst hu
  exact q _ _ _ _ _ hR (r1.new hp) (e1.tr (.new r1 hp)) (hz _ (ex_new (ex_none r1.ex hp)) upd_at)
theorem e_callB {id : String} {r : List V → Hp → VK → Prop} {ρ : List D → (D → Prop) → Prop} {x : Str} {p pos : Pos} {e : Expr} {es : List Expr} {ψ : DA} (hc : ∀ j, CallR (F.X j) (.builtin id) r) (hr : CSound r ρ) (hm : mg x = none) (hv : bootBuiltins x = some (.builtin id)) (ha : EA M F (e :: es) ψ) (hg : ∀ j, Gl (F.X j) x)
    (hn : x ≠ "__name__" := by decide) (hdb : (x == ("__debug__" : Str)) = false := by decide) (he : ∀ j, starEach (e :: es) (F.X j).env = (false, eval e (F.X j).env) :: starEach es (F.X j).env := by intro _; rfl) (hpl : ∀ j, (backTo pos (starEach es (F.X j).env)).any (·.1) = false := by intro _; rfl) :
    ED M F (.Call (.Name x p) (e :: es) [] pos) (dCB ρ ψ) := by
  obtain ⟨t, q, a⟩ := ha
  exact ⟨_, fun j => pe_callB (hc j) (hg j) (by rw [F.hm j]; exact hm) hv (q j) hn hdb (he j) (hpl j), cb_sound hr a⟩
theorem e_callTy {T : String} {r : List V → Hp → VK → Prop} {ρ : List D → (D → Prop) → Prop} {x : Str} {p pos : Pos} {e : Expr} {es : List Expr} {ψ : DA} (hc : ∀ j, CallR (F.X j) (.type T) r) (hr : CSound r ρ) (hm : mg x = none) (hv : bootBuiltins x = some (.type T)) (ha : EA M F (e :: es) ψ) (hg : ∀ j, Gl (F.X j) x)
    (hn : x ≠ "__name__" := by decide) (hdb : (x == ("__debug__" : Str)) = false := by decide) (he : ∀ j, starEach (e :: es) (F.X j).env = (false, eval e (F.X j).env) :: starEach es (F.X j).env := by intro _; rfl) (hpl : ∀ j, (backTo pos (starEach es (F.X j).env)).any (·.1) = false := by intro _; rfl) :
    ED M F (.Call (.Name x p) (e :: es) [] pos) (dCB ρ ψ) := by
  obtain ⟨t, q, a⟩ := ha
  exact ⟨_, fun j => pe_callTy (hc j) (hg j) (by rw [F.hm j]; exact hm) hv (q j) hn hdb (he j) (hpl j), cb_sound hr a⟩
/-- a built-in type as a value -/
theorem e_ty {n : String} {x : Str} {pos} (hm : mg x = none) (hv : bootBuiltins x = some (.type n)) (hg : ∀ j, Gl (F.X j) x) (hn : x ≠ "__name__" := by decide) (hdb : (x == ("__debug__" : Str)) = false := by decide) : ED M F (.Name x pos) (dC (.ty n)) := e_c (v := .ty n) (fun j => pe_bltn (hg j) (by rw [F.hm j]; exact hm) hv rfl (hn := hn) (hd := hdb)) fun _ => .ty n
/-! isinstance -/
@[simp] def tyN : D → Option String
  | .non => some "NoneType"
  | .bl _ => some "bool"
  | .int _ => some "int"
  | .str _ => some "str"
  | .tup _ => some "tuple"
  | .lst _ => some "list"
  | .dct _ _ => some "dict"
  | _ => none
theorem tyX_of {G H : Hp} {v : V} {d : D} {n : String} (e : Ex G H) (h : Vd G v d) (hn : tyN d = some n) : TyX K H v (.type n) := by
  cases h with
  | non => cases hn; exact .base .non
  | bl b => cases hn; exact .base (.bl b)
  | int i => cases hn; exact .base (.int i)
  | str x => cases hn; exact .base (.str x)
  | lst h t => cases hn; exact .base (.lst (e _ _ h))
  | tup h t => cases hn; exact .base (.tup (e _ _ h))
  | dct h l t => cases hn; exact .base (.dK (e _ _ h))
  | ty n => cases hn
  | cls C => cases hn
  | clo h => cases hn
  | sc h k t => cases hn
  | obj h l t => cases hn
@[simp] def isiN (n T : String) : Bool := n == T || (n == "bool" && T == "int")
@[simp] def isTs : List String := ["int", "bool", "str", "tuple", "list", "dict"]
theorem kit_isi : ∀ n ∈ ["NoneType", "bool", "int", "str", "tuple", "list", "dict"], ∀ T ∈ isTs, kitB n T = some (isiN n T) := by decide +kernel
theorem tyN_mem {d : D} {n : String} (h : tyN d = some n) : n ∈ ["NoneType", "bool", "int", "str", "tuple", "list", "dict"] := by
  cases d <;> cases h <;> simp
/-- isinstance(d, T) | isinstance(d, (T, ..)) -/
@[simp] def cIsi : List D → (D → Prop) → Prop := fun ds R => match ds with
  | [x, .ty T] => (match tyN x with
    | some n => T ∈ isTs ∧ R (.bl (isiN n T))
    | none => False)
  | _ => False
theorem c_isi : CSound (rIsi K) cIsi := by
  intro G H xs ds R Q e hv h q _
  unfold cIsi at h
  split at h
  · rename_i x T
    split at h
    · rename_i n hn
      cases hv with
      | cons a1 t =>
        cases t with
        | cons a2 t =>
          cases a2
          cases t
          exact ⟨_, _, _, _, _, rfl, .ty T, tyX_of e a1 hn, kit_ty (kit_isi n (tyN_mem hn) T h.1), q _ _ h.2 (.bl _)⟩
    · exact h.elim
  · exact h.elim
@[simp] def cIsT : List D → (D → Prop) → Prop := fun ds R => match ds with
  | [x, .tup ts] => (match tyN x with
    | some n => ∃ Ts : List String, ts = Ts.map .ty ∧ (∀ T ∈ Ts, T ∈ isTs) ∧ R (.bl (Ts.any (isiN n)))
    | none => False)
  | _ => False
theorem kitAny_ty {n : String} (hn : n ∈ ["NoneType", "bool", "int", "str", "tuple", "list", "dict"]) : ∀ Ts : List String, (∀ T ∈ Ts, T ∈ isTs) → PySem.W.kitAny K (.type n) (Ts.map Value.type) = some (Ts.any (isiN n))
  | [], _ => rfl
  | T :: Ts, h => by
    have h1 := kit_ty (K := K) (kit_isi n hn T (h T List.mem_cons_self))
    refine kitAny_cons (b := isiN n T) h1 (fun hb => ?_) fun hb => ?_
    · rw [List.any_cons, hb, Bool.false_or]
      exact kitAny_ty hn Ts fun T' hT' => h T' (List.mem_cons_of_mem _ hT')
    · rw [List.any_cons, hb, Bool.true_or]
theorem vds_ty {G : Hp} : ∀ {Ts : List String} {vs : List V}, Vds G vs (Ts.map .ty) → vs = Ts.map V.ty ∧ Paired ClsV vs (Ts.map Value.type)
  | [], _, h => by cases h; exact ⟨rfl, .nil⟩
  | T :: Ts, _, h => by
    cases h with
    | cons a t =>
      cases a
      obtain ⟨e, p⟩ := vds_ty t
      exact ⟨by rw [e]; rfl, .cons (.ty T) p⟩
theorem c_isT : CSound (rIsiT K) cIsT := by
  intro G H xs ds R Q e hv h q _
  unfold cIsT at h
  split at h
  · rename_i x ts
    split at h
    · rename_i n hn
      obtain ⟨Ts, rfl, hT, hR⟩ := h
      cases hv with
      | cons a1 t =>
        cases t with
        | cons a2 t =>
          cases t
          cases a2 with
          | @tup p vs _ hp hv =>
            obtain ⟨_, pr⟩ := vds_ty hv
            exact ⟨_, p, vs, _, _, _, rfl, e _ _ hp, pr, tyX_of e a1 hn, kitAny_ty (tyN_mem hn) Ts hT, q _ _ hR (.bl _)⟩
    · exact h.elim
  · exact h.elim
theorem boot_isi : bootBuiltins "isinstance" = some (.builtin "isinstance") := by decide +kernel
theorem e_isi {p pos : Pos} {a b : Expr} {ψ : DA} (hm : mg "isinstance" = none) (ha : EA M F [a, b] ψ) (hg : ∀ j, Gl (F.X j) "isinstance") (he : ∀ j, starEach [a, b] (F.X j).env = (false, eval a (F.X j).env) :: starEach [b] (F.X j).env := by intro _; rfl) (hpl : ∀ j, (backTo pos (starEach [b] (F.X j).env)).any (·.1) = false := by intro _; rfl) :
    ED M F (.Call (.Name "isinstance" p) [a, b] [] pos) (dCB cIsi ψ) := e_callB (fun j => by have := call_isi (X := F.X j); rw [F.hK j] at this; exact this) c_isi hm boot_isi ha hg (by decide) (by decide) he hpl
theorem e_isT {p pos : Pos} {a b : Expr} {ψ : DA} (hm : mg "isinstance" = none) (ha : EA M F [a, b] ψ) (hg : ∀ j, Gl (F.X j) "isinstance") (he : ∀ j, starEach [a, b] (F.X j).env = (false, eval a (F.X j).env) :: starEach [b] (F.X j).env := by intro _; rfl) (hpl : ∀ j, (backTo pos (starEach [b] (F.X j).env)).any (·.1) = false := by intro _; rfl) :
    ED M F (.Call (.Name "isinstance" p) [a, b] [] pos) (dCB cIsT ψ) := e_callB (fun j => by have := call_isiT (X := F.X j); rw [F.hK j] at this; exact this) c_isT hm boot_isi ha hg (by decide) (by decide) he hpl
/-! len, all, any, sum, tuple, list, int -/
@[simp] def cLen : List D → (D → Prop) → Prop := fun ds R => match ds with
  | [.tup xs] => R (.int xs.length)
  | [.lst xs] => R (.int xs.length)
  | _ => False
theorem c_len : CSound (fun xs H Q => ∃ p ys, xs = [.ref p] ∧ (SqL K H p ys ∨ SqT K H p ys) ∧ Q (.int ys.length) H) cLen := by
  intro G H xs ds R Q e hv h q _
  unfold cLen at h
  split at h
  · cases hv with
    | cons a t =>
      cases t
      cases a with
      | @tup p vs _ hp hv => exact ⟨p, vs, rfl, .inr (.inl (.inl (e _ _ hp))), q _ _ h (by rw [hv.len]; exact .int _)⟩
  · cases hv with
    | cons a t =>
      cases t
      cases a with
      | @lst p vs _ hp hv => exact ⟨p, vs, rfl, .inl (.inl (.inl (e _ _ hp))), q _ _ h (by rw [hv.len]; exact .int _)⟩
  · exact h.elim
theorem e_len {p pos : Pos} {a : Expr} {ψ : DA} (hm : mg "len" = none) (ha : EA M F [a] ψ) (hg : ∀ j, Gl (F.X j) "len") (he : ∀ j, starEach [a] (F.X j).env = (false, eval a (F.X j).env) :: starEach [] (F.X j).env := by intro _; rfl) (hpl : ∀ j, (backTo pos (starEach [] (F.X j).env)).any (·.1) = false := by intro _; rfl) :
    ED M F (.Call (.Name "len" p) [a] [] pos) (dCB cLen ψ) := e_callB (fun j => by have := call_len_seq (X := F.X j); rw [F.hK j] at this; exact this) c_len hm PySem.boot_len ha hg (by decide) (by decide) he hpl
/-- rows of bools, of ints -/
@[simp] def blsD : List D → Option (List Bool)
  | [] => some []
  | .bl b :: r => (blsD r).map (b :: ·)
  | _ => none
@[simp] def intsD : List D → Option (List Int)
  | [] => some []
  | .int i :: r => (intsD r).map (i :: ·)
  | _ => none
theorem bls_v {G : Hp} : ∀ {ds : List D} {vs : List V} {bs : List Bool}, Vds G vs ds → blsD ds = some bs → vs = bs.map V.bl
  | [], _, bs, h, e => by cases h; cases e; rfl
  | .bl b :: r, _, bs, .cons a t, e => by
    cases a
    unfold blsD at e
    cases q : blsD r with
    | none => rw [q] at e; cases e
    | some cs =>
      rw [q] at e
      cases e
      rw [bls_v t q]
      rfl
theorem ints_v {G : Hp} : ∀ {ds : List D} {vs : List V} {bs : List Int}, Vds G vs ds → intsD ds = some bs → vs = bs.map V.int
  | [], _, bs, h, e => by cases h; cases e; rfl
  | .int b :: r, _, bs, .cons a t, e => by
    cases a
    unfold intsD at e
    cases q : intsD r with
    | none => rw [q] at e; cases e
    | some cs =>
      rw [q] at e
      cases e
      rw [ints_v t q]
      rfl
@[simp] def cAll : List D → (D → Prop) → Prop := fun ds R => match ds with
  | [.lst xs] => ∃ bs, blsD xs = some bs ∧ R (.bl (bs.all id))
  | _ => False
@[simp] def cAny : List D → (D → Prop) → Prop := fun ds R => match ds with
  | [.lst xs] => ∃ bs, blsD xs = some bs ∧ R (.bl (bs.any id))
  | _ => False
@[simp] def cSum : List D → (D → Prop) → Prop := fun ds R => match ds with
  | [.lst xs] => ∃ bs, intsD xs = some bs ∧ R (.int bs.sum)
  | [.tup xs] => ∃ bs, intsD xs = some bs ∧ R (.int bs.sum)
  | _ => False
theorem c_all : CSound (rAll K) cAll := by
  intro G H xs ds R Q e hv h q _
  unfold cAll at h
  split at h
  · obtain ⟨bs, h1, h2⟩ := h
    cases hv with
    | cons a t =>
      cases t
      cases a with
      | @lst p vs _ hp hv => exact ⟨p, bs, rfl, .inl (.inl (by rw [← bls_v hv h1]; exact e _ _ hp)), q _ _ h2 (.bl _)⟩
  · exact h.elim
theorem c_any : CSound (rAny K) cAny := by
  intro G H xs ds R Q e hv h q _
  unfold cAny at h
  split at h
  · obtain ⟨bs, h1, h2⟩ := h
    cases hv with
    | cons a t =>
      cases t
      cases a with
      | @lst p vs _ hp hv => exact ⟨p, bs, rfl, .inl (.inl (by rw [← bls_v hv h1]; exact e _ _ hp)), q _ _ h2 (.bl _)⟩
  · exact h.elim
theorem c_sum : CSound (fun xs H Q => rSum K xs H Q ∨ rSumT K xs H Q) cSum := by
  intro G H xs ds R Q e hv h q _
  unfold cSum at h
  split at h
  · obtain ⟨bs, h1, h2⟩ := h
    cases hv with
    | cons a t =>
      cases t
      cases a with
      | @lst p vs _ hp hv => exact .inl ⟨p, bs, rfl, .inl (.inl (by rw [← ints_v hv h1]; exact e _ _ hp)), q _ _ h2 (.int _)⟩
  · obtain ⟨bs, h1, h2⟩ := h
    cases hv with
    | cons a t =>
      cases t
      cases a with
      | @tup p vs _ hp hv => exact .inr ⟨p, bs, rfl, .inl (.inl (by rw [← ints_v hv h1]; exact e _ _ hp)), q _ _ h2 (.int _)⟩
  · exact h.elim
theorem cr_sumX {X : Cx} (hc : X.calm = true) : CallR X (.builtin "sum") (fun xs H Q => rSum X.K xs H Q ∨ rSumT X.K xs H Q) := CallR.or (cr_sum hc) (cr_sumT hc)
theorem boot_all : bootBuiltins "all" = some (.builtin "all") := by decide +kernel
theorem boot_any : bootBuiltins "any" = some (.builtin "any") := by decide +kernel
theorem boot_sum : bootBuiltins "sum" = some (.builtin "sum") := by decide +kernel
theorem boot_tup : bootBuiltins "tuple" = some (.type "tuple") := by decide +kernel
theorem boot_lst : bootBuiltins "list" = some (.type "list") := by decide +kernel
theorem boot_intD : bootBuiltins "int" = some (.type "int") := by decide +kernel
theorem boot_boolD : bootBuiltins "bool" = some (.type "bool") := by decide +kernel
section
variable {p pos : Pos} {a : Expr} {ψ : DA} (he : ∀ j, starEach [a] (F.X j).env = (false, eval a (F.X j).env) :: starEach [] (F.X j).env) (hpl : ∀ j, (backTo pos (starEach [] (F.X j).env)).any (·.1) = false)
theorem e_all (hm : mg "all" = none) (ha : EA M F [a] ψ) (hg : ∀ j, Gl (F.X j) "all") (he : ∀ j, starEach [a] (F.X j).env = (false, eval a (F.X j).env) :: starEach [] (F.X j).env := by intro _; rfl) (hpl : ∀ j, (backTo pos (starEach [] (F.X j).env)).any (·.1) = false := by intro _; rfl) :
    ED M F (.Call (.Name "all" p) [a] [] pos) (dCB cAll ψ) := e_callB (fun j => by have := cr_all (X := F.X j) (F.hc j); rw [F.hK j] at this; exact this) c_all hm boot_all ha hg (by decide) (by decide) he hpl
theorem e_any (hm : mg "any" = none) (ha : EA M F [a] ψ) (hg : ∀ j, Gl (F.X j) "any") (he : ∀ j, starEach [a] (F.X j).env = (false, eval a (F.X j).env) :: starEach [] (F.X j).env := by intro _; rfl) (hpl : ∀ j, (backTo pos (starEach [] (F.X j).env)).any (·.1) = false := by intro _; rfl) :
    ED M F (.Call (.Name "any" p) [a] [] pos) (dCB cAny ψ) := e_callB (fun j => by have := cr_any (X := F.X j) (F.hc j); rw [F.hK j] at this; exact this) c_any hm boot_any ha hg (by decide) (by decide) he hpl
theorem e_sum (hm : mg "sum" = none) (ha : EA M F [a] ψ) (hg : ∀ j, Gl (F.X j) "sum") (he : ∀ j, starEach [a] (F.X j).env = (false, eval a (F.X j).env) :: starEach [] (F.X j).env := by intro _; rfl) (hpl : ∀ j, (backTo pos (starEach [] (F.X j).env)).any (·.1) = false := by intro _; rfl) :
    ED M F (.Call (.Name "sum" p) [a] [] pos) (dCB cSum ψ) := e_callB (fun j => by have := cr_sumX (X := F.X j) (F.hc j); rw [F.hK j] at this; exact this) c_sum hm boot_sum ha hg (by decide) (by decide) he hpl
end
/-- tuple(x) -/
@[simp] def cTup : List D → (D → Prop) → Prop := fun ds R => match ds with
  | [.tup xs] => R (.tup xs)
  | [.lst xs] => R (.tup xs)
  | _ => False
theorem c_tup : CSound (fun xs H Q => ∃ p ys, xs = [.ref p] ∧ ((SqL K H p ys ∧ ∀ l, H l = none → Q (.ref l) (upd H l (.tup ys))) ∨ (SqT K H p ys ∧ Q (.ref p) H))) cTup := by
  intro G H xs ds R Q e hv h q q2
  unfold cTup at h
  split at h
  · cases hv with
    | cons a t =>
      cases t
      cases a with
      | @tup p vs _ hp hv => exact ⟨p, vs, rfl, .inr ⟨.inl (.inl (e _ _ hp)), q _ _ h (.tup hp hv)⟩⟩
  · cases hv with
    | cons a t =>
      cases t
      cases a with
      | @lst p vs _ hp hv => exact ⟨p, vs, rfl, .inl ⟨.inl (.inl (e _ _ hp)), fun l hl => q2 _ _ l _ h hl (fun G' eg hl' => .tup hl' (Vds.mono eg hv)) rfl⟩⟩
  · exact h.elim
theorem e_tuple {p pos : Pos} {a : Expr} {ψ : DA} (hm : mg "tuple" = none) (ha : EA M F [a] ψ) (hg : ∀ j, Gl (F.X j) "tuple") (he : ∀ j, starEach [a] (F.X j).env = (false, eval a (F.X j).env) :: starEach [] (F.X j).env := by intro _; rfl) (hpl : ∀ j, (backTo pos (starEach [] (F.X j).env)).any (·.1) = false := by intro _; rfl) :
    ED M F (.Call (.Name "tuple" p) [a] [] pos) (dCB cTup ψ) := e_callTy (fun j => by have := call_tuple_of (X := F.X j); rw [F.hK j] at this; exact this) c_tup hm boot_tup ha hg (by decide) (by decide) he hpl
/-- list(x), a new list -/
@[simp] def lList (ψ : DA) : DA := fun s R => ψ s fun ds s1 => match ds with
  | [.tup xs] => R xs s1
  | [.lst xs] => R xs s1
  | _ => False
theorem l_list {p pos : Pos} {a : Expr} {ψ : DA} (hm : mg "list" = none) (ha : EA M F [a] ψ) (hg : ∀ j, Gl (F.X j) "list") (he : ∀ j, starEach [a] (F.X j).env = (false, eval a (F.X j).env) :: starEach [] (F.X j).env := by intro _; rfl) (hpl : ∀ j, (backTo pos (starEach [] (F.X j).env)).any (·.1) = false := by intro _; rfl) :
    EL M F (.Call (.Name "list" p) [a] [] pos) (lList ψ) := by
  obtain ⟨t, q, b⟩ := ha
  refine ⟨tCB (fun xs H Q => ∃ p ys, xs = [.ref p] ∧ (SqL K H p ys ∨ SqT K H p ys) ∧ ∀ l, H l = none → Q (.ref l) (upd H l (.lst ys))) t, fun j => pe_callTy (by have := call_list_of (X := F.X j); rw [F.hK j] at this; exact this) (hg j) (by rw [F.hm j]; exact hm) boot_lst (q j) (by decide) (by decide) (he j) (hpl j), fun s σ G H R Q rel h q => ?_⟩
  refine b s σ G H _ _ rel h fun ds s1 vs G1 H1 h1 r1 g1 hvs => ?_
  have fin : ∀ (l : Addr) (us : List V) (xs : List D), R xs s1 → Vds G1 us xs → H1 l = none → Q (.ref l) (upd H1 l (.lst us)) := fun l us xs hR hu hl => by
    obtain ⟨f1, f2, f3, f4⟩ := r1.fresh hl
    exact q _ _ _ _ _ _ hR (r1.lay hl) (g1.tr (.lay hl)) hu (g1.none rel r1 hl) upd_at f1 f2 f3 f4
  split at h1
  · cases hvs with
    | cons a t =>
      cases t
      cases a with
      | @tup p us _ hp hv => exact ⟨p, us, rfl, .inr (.inl (.inl (r1.ex _ _ hp))), fun l hl => fin l us _ h1 hv hl⟩
  · cases hvs with
    | cons a t =>
      cases t
      cases a with
      | @lst p us _ hp hv => exact ⟨p, us, rfl, .inl (.inl (.inl (r1.ex _ _ hp))), fun l hl => fin l us _ h1 hv hl⟩
  · exact h1.elim
end
end DL
namespace DL
open PySem PySem.Spec PyProof.Rows L2
section
variable {P : Program} {w : World} {K : PySem.W.Frag} {mg : Str → Option Value} {base : Heap} {k : Nat} {M : Cm} {F : Fam P w K mg base k}
/-! ### comparisons, bundled -/
variable (F) in
def Cmp (op : CmpOp) (ρ : DO) : Prop := ∃ r, (∀ j, OpR (F.X j) (compareOp op) r) ∧ OSound r ρ
theorem tc {op : CmpOp} {x y : Expr} {pos} {ρ : DO} {φ ψ : DE} (hr : Cmp F op ρ) (h1 : ED M F x φ) (h2 : ED M F y ψ) (hm : behindInMarks op y = false) : ET M F (.Compare x [op] [y] pos) (fun s R => dOp ρ φ ψ s fun d s' => ∃ b, d = .bl b ∧ R b s') := by
  obtain ⟨r, a, b⟩ := hr
  exact t_cmp a b h1 h2 hm
theorem ec {op : CmpOp} {x y : Expr} {pos} {ρ : DO} {φ ψ : DE} (hr : Cmp F op ρ) (h1 : ED M F x φ) (h2 : ED M F y ψ) (hm : behindInMarks op y = false) : ED M F (.Compare x [op] [y] pos) (dOp ρ φ ψ) := by
  obtain ⟨r, a, b⟩ := hr
  exact e_cmp a b h1 h2 hm
theorem c_lt : Cmp F .Lt (oI0 fun i j => .bl (decide (i < j))) := ⟨_, fun _ => op_lt, o_I0 fun _ _ _ => .bl _⟩
theorem c_le : Cmp F .LtE (oI0 fun i j => .bl (decide (i ≤ j))) := ⟨_, fun _ => op_le, o_I0 fun _ _ _ => .bl _⟩
theorem c_gt : Cmp F .Gt (oI0 fun i j => .bl (decide (i > j))) := ⟨_, fun _ => op_gt, o_I0 fun _ _ _ => .bl _⟩
theorem c_ge : Cmp F .GtE (oI0 fun i j => .bl (decide (i ≥ j))) := ⟨_, fun _ => op_ge, o_I0 fun _ _ _ => .bl _⟩
/-! == of data -/
mutual
@[simp] def pyE : D → Option PyData
  | .non => some .none
  | .bl b => some (.bool b)
  | .int i => some (.int i)
  | .str x => some (.str x)
  | .tup ds => (pyEs ds).map .tuple
  | .lst ds => (pyEs ds).map .list
  | _ => none
@[simp] def pyEs : List D → Option (List PyData)
  | [] => some []
  | d :: ds => match pyE d, pyEs ds with
    | some x, some xs => some (x :: xs)
    | _, _ => none
end
mutual
theorem dp_of {G H : Hp} (e : Ex G H) : ∀ {d : D} {v : V} {x : PyData}, Vd G v d → pyE d = some x → Dp K H v x
  | .non, _, _, .non, h => by cases h; exact .non
  | .bl b, _, _, .bl _, h => by cases h; exact .bl b
  | .int i, _, _, .int _, h => by cases h; exact .int i
  | .str s, _, _, .str _, h => by cases h; exact .str s
  | .tup ds, _, x, .tup hp hv, h => by
    have h : (pyEs ds).map .tuple = some x := h
    cases q : pyEs ds with
    | none => rw [q] at h; cases h
    | some xs =>
      rw [q] at h
      cases h
      exact .tup (.inl (.inl (e _ _ hp))) (dps_of e hv q)
  | .lst ds, _, x, .lst hp hv, h => by
    have h : (pyEs ds).map .list = some x := h
    cases q : pyEs ds with
    | none => rw [q] at h; cases h
    | some xs =>
      rw [q] at h
      cases h
      exact .lst (.inl (.inl (e _ _ hp))) (dps_of e hv q)
theorem dps_of {G H : Hp} (e : Ex G H) : ∀ {ds : List D} {vs : List V} {xs : List PyData}, Vds G vs ds → pyEs ds = some xs → DpAll K H vs xs
  | [], _, _, .nil, h => by cases h; exact .nil
  | d :: ds, _, xs, .cons a t, h => by
    unfold pyEs at h
    split at h
    · rename_i x ys h1 h2
      cases h
      exact .cons (dp_of e a h1) (dps_of e t h2)
    · cases h
end
@[simp] def oEq : DO := fun a b R => match a, b with
  | .int i, .int j => R (.bl (decide (i = j)))
  | .str i, .str j => R (.bl (decide (i = j)))
  | .bl i, .bl j => R (.bl (decide (i = j)))
  | a, b => ∃ x y, pyE a = some x ∧ pyE b = some y ∧ SeqAt.shaped x = true ∧ SeqAt.shaped y = true ∧ R (.bl (PyData.eqv x y))
@[simp] def oNe : DO := fun a b R => match a, b with
  | .int i, .int j => R (.bl (!decide (i = j)))
  | .str i, .str j => R (.bl (!decide (i = j)))
  | .bl i, .bl j => R (.bl (!decide (i = j)))
  | a, b => ∃ x y, pyE a = some x ∧ pyE b = some y ∧ SeqAt.shaped x = true ∧ SeqAt.shaped y = true ∧ R (.bl (!PyData.eqv x y))
theorem OpR.or2 {X : Cx} {f : Value → Value → Sem Value} {r r' : R2} (h : OpR X f r) (h' : OpR X f r') : OpR X f (fun x y H Q => r x y H Q ∨ r' x y H Q) := by
  intro pins s σ H x y v u Q I rx ry q
  rcases q with q | q
  · exact h pins s σ H x y v u Q I rx ry q
  · exact h' pins s σ H x y v u Q I rx ry q
theorem c_eq : Cmp F .Eq oEq := ⟨fun x y H Q => rEq x y H Q ∨ rEqD K x y H Q, fun j => OpR.or2 op_eq (by have := op_eqD (X := F.X j) (F.hr j).units; rw [F.hK j] at this; exact this), by
  intro G H x y a b R Q e hx hy h q _
  unfold oEq at h
  split at h
  · cases hx
    cases hy
    refine .inl ⟨rfl, q _ _ h ?_⟩
    simp only [V.int.injEq]
    exact .bl _
  · cases hx
    cases hy
    refine .inl ⟨rfl, q _ _ h ?_⟩
    simp only [V.str.injEq]
    exact .bl _
  · cases hx
    cases hy
    refine .inl ⟨rfl, q _ _ h ?_⟩
    simp only [V.bl.injEq]
    exact .bl _
  · obtain ⟨d, f, h1, h2, h3, h4, h5⟩ := h
    exact .inr ⟨d, f, dp_of e hx h1, dp_of e hy h2, h3, h4, q _ _ h5 (.bl _)⟩⟩
theorem c_ne : Cmp F .NotEq oNe := ⟨fun x y H Q => rNe x y H Q ∨ rNeD K x y H Q, fun j => OpR.or2 op_ne (by have := op_neD (X := F.X j) (F.hr j).units; rw [F.hK j] at this; exact this), by
  intro G H x y a b R Q e hx hy h q _
  unfold oNe at h
  split at h
  · cases hx
    cases hy
    refine .inl ⟨rfl, q _ _ h ?_⟩
    simp only [V.int.injEq]
    exact .bl _
  · cases hx
    cases hy
    refine .inl ⟨rfl, q _ _ h ?_⟩
    simp only [V.str.injEq]
    exact .bl _
  · cases hx
    cases hy
    refine .inl ⟨rfl, q _ _ h ?_⟩
    simp only [V.bl.injEq]
    exact .bl _
  · obtain ⟨d, f, h1, h2, h3, h4, h5⟩ := h
    exact .inr ⟨d, f, dp_of e hx h1, dp_of e hy h2, h3, h4, q _ _ h5 (.bl _)⟩⟩
/-! is None, is True -/
@[simp] def isNone : D → Bool
  | .non => true
  | _ => false
@[simp] def oIsN (n : Bool) : DO := fun a b R => match b with
  | .non => R (.bl (n != isNone a))
  | _ => False
theorem vd_non {G : Hp} {v : V} {d : D} (h : Vd G v d) : decide (v = .non) = isNone d := by
  cases h <;> simp
theorem is_non : Cmp F .Is (oIsN false) := ⟨_, fun _ => op_isN, by
  intro G H x y a b R Q e hx hy h q _
  unfold oIsN at h
  split at h
  · cases hy
    refine ⟨rfl, ?_⟩
    rw [vd_non hx]
    exact q _ _ (by simpa using h) (.bl _)
  · exact h.elim⟩
theorem isnot_non : Cmp F .IsNot (oIsN true) := ⟨_, fun _ => op_notN, by
  intro G H x y a b R Q e hx hy h q _
  unfold oIsN at h
  split at h
  · cases hy
    refine ⟨rfl, ?_⟩
    rw [vd_non hx]
    exact q _ _ (by simpa using h) (.bl _)
  · exact h.elim⟩
@[simp] def oIsB (n : Bool) : DO := fun a b R => match a, b with
  | .bl x, .bl y => R (.bl (n != decide (x = y)))
  | _, _ => False
theorem is_bl : Cmp F .Is (oIsB false) := ⟨_, fun _ => op_is_bl, by
  intro G H x y a b R Q e hx hy h q _
  unfold oIsB at h
  split at h
  · cases hx
    cases hy
    exact ⟨_, _, rfl, rfl, q _ _ (by simpa using h) (.bl _)⟩
  · exact h.elim⟩
theorem isnot_bl : Cmp F .IsNot (oIsB true) := ⟨_, fun _ => op_isnot_bl, by
  intro G H x y a b R Q e hx hy h q _
  unfold oIsB at h
  split at h
  · cases hx
    cases hy
    exact ⟨_, _, rfl, rfl, q _ _ (by simpa using h) (.bl _)⟩
  · exact h.elim⟩
/-! ### ints of the module; -x; x ** y -/
theorem e_gint {x : Str} {pos} {i : Int} (h : ∃ t, mg x = some (.int i t)) (hg : ∀ j, Gl (F.X j) x) (hdb : (x == ("__debug__" : Str)) = false := by decide) : ED M F (.Name x pos) (dC (.int i)) := by
  obtain ⟨t, h⟩ := h
  exact e_c (v := .int i) (fun j => pe_glob (hg j) (by rw [F.hm j]; exact h) ⟨t, rfl⟩ hdb) fun _ => .int i
@[simp] def dNeg (φ : DE) : DE := fun s R => φ s fun d s1 => match d with
  | .int i => R (.int (-i)) s1
  | _ => False
theorem e_neg {e : Expr} {pos} {φ : DE} (h : ED M F e φ) : ED M F (.UnaryOp .USub e pos) (dNeg φ) := by
  obtain ⟨t, p, a⟩ := h
  refine ⟨_, fun j => pe_un un_neg (p j), fun s σ G H R Q rel h q => ?_⟩
  refine a s σ G H _ _ rel h fun d s1 v G1 H1 h1 r1 g1 hv => ?_
  split at h1
  · cases hv
    exact ⟨_, rfl, q _ _ _ _ _ h1 r1 g1 (.int _)⟩
  · exact h1.elim
theorem e_pow {x y : Expr} {pos} {φ ψ : DE} (h1 : ED M F x φ) (h2 : ED M F y ψ) : ED M F (.BinOp x .Pow y pos) (dOp (oI CPow fun i j => .int (i ^ j.toNat)) φ ψ) := e_op (fun _ => op_pow) (o_I fun _ _ _ => .int _) h1 h2
/-! ### tuples: +, * -/
@[simp] def oCatT : DO := fun a b R => match a, b with
  | .tup xs, .tup ys => xs ≠ [] ∧ xs.length + ys.length ≤ 10000 ∧ R (.tup (xs ++ ys))
  | _, _ => False
theorem o_catT : OSound (rCatT K) oCatT := by
  intro G H x y a b R Q e hx hy h q q2
  unfold oCatT at h
  split at h
  · rename_i xs ys
    obtain ⟨h1, h2, h3⟩ := h
    cases hx with
    | @tup p vs _ hp hv =>
      cases hy with
      | @tup p2 us _ hp2 hu =>
        refine ⟨p, p2, vs, us, rfl, rfl, .inl (.inl (e _ _ hp)), .inl (.inl (e _ _ hp2)), fun z => h1 ?_, by rw [hv.len, hu.len, sizeLine_eq]; omega, fun z => ?_, fun _ l hl => q2 _ _ l _ h3 hl (fun G' eg hl' => .tup hl' (Vds.mono eg (hv.app hu))) rfl⟩
        · have := hv.len
          rw [z] at this
          exact List.eq_nil_of_length_eq_zero this.symm
        · have := hu.len
          rw [z] at this
          rw [List.eq_nil_of_length_eq_zero this.symm, List.append_nil] at h3
          exact q _ _ h3 (.tup hp hv)
  · exact h.elim
theorem e_catT {x y : Expr} {pos} {φ ψ : DE} (h1 : ED M F x φ) (h2 : ED M F y ψ) : ED M F (.BinOp x .Add y pos) (dOp oCatT φ ψ) := e_op (fun j => by have := op_catT (X := F.X j); rw [F.hK j] at this; exact this) o_catT h1 h2
/-! ### lists of one's own -/
theorem set_self {σ : L2.St} {i : Nat} {ov : Option V} (h : σ[i]? = some ov) : σ.set i ov = σ := by
  refine List.ext_getElem? fun j => ?_
  rw [List.getElem?_set]
  by_cases e : i = j
  · rw [if_pos e, ← e, h, if_pos (List.getElem?_eq_some_iff.mp h).1]
  · rw [if_neg e]
theorem Rel.put {s : S} {σ : L2.St} {G H : Hp} (R : Rel M s σ G H) {i : Nat} {ds es : OD} {a : Addr} {o' : HO} (hi : s.sl[i]? = some (.own ds)) (ha : σ[i]? = some (some (.ref a))) (hu : OV G es o') : Rel M (s.set i (.own es)) σ G (upd H a o') := by
  obtain ⟨b, vs, e1, e2, e3, e4, e5, e6⟩ := R.getO hi
  rw [ha] at e1
  cases e1
  have R1 : Rel M s σ G H := R
  refine ⟨ex_put R.ex e4, fun b hb hn => ?_, fun p L e => ?_, ⟨tabs_keep R.tab.1 (fun b ps e => (upd_ne fun z => by
      rw [z, e2] at e
      exact e3.tbl ps (Option.some.inj e)).trans e) (Ex.rf _), R.tab.2⟩, by simp [S.set, R.len], fun j x ov h1 h2 => ?_, fun j l ds' es' b h1 h2 h3 h4 => ?_⟩
  · have ne : b ≠ a := fun z => hb (by rw [z]; exact e5)
    exact ⟨(upd_ne ne).trans (R.fr b hb hn).1, (R.fr b hb hn).2⟩
  · exact ⟨(R.pen p L e).1.put (e6.1 p L e).1 (e6.1 p L e).2, (R.pen p L e).2⟩
  · have h1 : (s.sl.set i (.own es))[j]? = some x := h1
    rw [List.getElem?_set] at h1
    by_cases e : i = j
    · rw [if_pos e] at h1
      split at h1
      · cases h1
        rw [← e, ha] at h2
        cases h2
        exact ⟨a, o', rfl, upd_at, hu, e4, e5, e6⟩
      · cases h1
    · rw [if_neg e] at h1
      have kk := R.sl j x ov h1 h2
      cases x with
      | no => exact kk
      | d x => exact kk
      | own fs =>
        obtain ⟨b, ws, w1, w2, w3⟩ := kk
        have ne : b ≠ a := fun z => e (R.inj i j ds fs a hi h1 ha (by rw [h2, w1, z]))
        exact ⟨b, ws, w1, (upd_ne ne).trans w2, w3⟩
      | pen => exact kk
  · have low : ∀ {j : Nat} {fs : OD}, (s.sl.set i (.own es))[j]? = some (.own fs) → ∃ gs, s.sl[j]? = some (.own gs) := fun {j fs} h => by
      rw [List.getElem?_set] at h
      by_cases e : i = j
      · rw [← e]; exact ⟨ds, hi⟩
      · rw [if_neg e] at h; exact ⟨fs, h⟩
    obtain ⟨g1, k1⟩ := low h1
    obtain ⟨g2, k2⟩ := low h2
    exact R.inj j l g1 g2 b k1 k2 h3 h4
@[simp] def dAppend (i : Nat) (φ : DE) : DS := fun s E => (match s.sl[i]? with
  | some (.own (.l _)) => True
  | _ => False) ∧ φ s fun d s1 => match s1.sl[i]? with
  | some (.own (.l ds)) => ds.length < 10000 ∧ E.nx (s1.set i (.own (.l (ds ++ [d]))))
  | _ => False
theorem s_append (i : Nat) {o e : Expr} {apos cpos pos : Pos} {φ : DE} (hv : ∀ j, PE (F.X j) o (tVar i)) (he : ED M F e φ) (hb : ∀ j, attributeBase o "append" (F.X j).env (eval o (F.X j).env) = eval o (F.X j).env := by intro _; rfl)
    (hfew : ∀ j, ((backTo cpos (starEach [e] (F.X j).env)).all (fun x => !x.1) && (backToKw cpos (keywordEach [] (F.X j).env)).all (fun x => x.1.isSome) && decide (([e] : List Expr).length + ([] : List Keyword).length + (if ([] : List Keyword).isEmpty then 0 else 1) < 30)) = true := by intro _; rfl)
    (hline : (apos.endLine == cpos.line) = true := by rfl) (hs : ∀ j, starEach [e] (F.X j).env = (false, eval e (F.X j).env) :: starEach [] (F.X j).env := by intro _; rfl) (hpl : ∀ j, (backTo cpos (starEach [] (F.X j).env)).any (·.1) = false := by intro _; rfl)
    (hsw : ∀ j, swapsWith (.Call (.Attribute o "append" apos) [e] [] cpos) none pos.line (F.X j).env = pure false := by intro _; rfl) : SD M F (.Expr (.Call (.Attribute o "append" apos) [e] [] cpos) pos) (dAppend i φ) := by
  obtain ⟨t, p, a⟩ := he
  refine ⟨tDrop (tBM K "list" rAppend (tVar i) (tCons t tNil)), fun j => ps_expr (by
    have := pe_bm (apos := apos) (cpos := cpos) PySem.F.plainAttrs_list PySem.F.slot_list_append PySem.F.type_list_append mt_append (hv j) (pa_cons (p j) pa_nil (hs j)) (hb j) (hfew j) hline (hs j) (hpl j)
    rw [F.hK j] at this
    exact this) (hsw j), fun s σ G H E Dn rel h e => ?_⟩
  obtain ⟨h0, h⟩ := h
  split at h0
  · rename_i ds0 hi0
    obtain ⟨x, vs0, x1, x2, x3, _⟩ := rel.getL hi0
    refine ⟨_, x1, .inl ⟨rfl, _, .inl (.inl x2)⟩, ?_⟩
    refine a s σ G H _ _ rel h fun d s1 v G1 H1 h1 r1 g1 hv => ?_
    split at h1
    · rename_i ds hi
      obtain ⟨y, vs, y1, y2, y3, _⟩ := r1.getL hi
      rw [x1] at y1
      cases y1
      exact ⟨x, vs, v, rfl, rfl, y2, by rw [y3.len, sizeLine_eq]; have := h1.1; omega, e.nx _ _ _ _ h1.2 (r1.put hi x1 ⟨_, rfl, y3.snoc hv⟩) g1.ex⟩
    · exact h1.elim
  · exact h0.elim
/-- left.pop(e) -/
@[simp] def dPop (i : Nat) (φ : DE) : DE := fun s R => (match s.sl[i]? with
  | some (.own (.l _)) => True
  | _ => False) ∧ φ s fun d s1 => match d, s1.sl[i]? with
  | .int n, some (.own (.l ds)) => 0 ≤ n ∧ n < 10000 ∧ ∃ y, ds[n.toNat]? = some y ∧ R y (s1.set i (.own (.l (ds.eraseIdx n.toNat))))
  | _, _ => False
theorem Vds.erase {G : Hp} : ∀ {ds : List D} {vs : List V}, Vds G vs ds → ∀ n : Nat, Vds G (vs.eraseIdx n) (ds.eraseIdx n)
  | _, _, .nil, _ => .nil
  | _, _, .cons h t, 0 => t
  | _, _, .cons h t, n + 1 => .cons h (t.erase n)
/-- freeze: a list of one's own stands for good from here -/
@[simp] def dFrz (i : Nat) (ψ : DS) : DS := fun s E => match s.sl[i]? with
  | some (.own (.l ds)) => ψ (s.set i (.d (.lst ds))) E
  | _ => False
theorem s_frz (i : Nat) {body : List Stmt} {ψ : DS} (h : SDs M F body ψ) : SDs M F body (dFrz i ψ) := by
  obtain ⟨t, p, a⟩ := h
  refine ⟨t, p, fun s σ G H E Dn rel h e => ?_⟩
  unfold dFrz at h
  split at h
  · rename_i ds hi
    obtain ⟨x, vs, x1, x2, x3, x4, x5, x6⟩ := rel.getL hi
    have eg := ex_new (o := .lst vs) x4
    have nm : Rel M (s.set i .no) (σ.set i (some (.ref x))) G H := rel.setN
    rw [set_self x1] at nm
    have fx : Rel M (s.set i .no) σ (upd G x (.lst vs)) H := nm.fix x2 x4 x5 x6 fun j es hj ej => by
      have hj : (s.sl.set i .no)[j]? = some (.own es) := hj
      rw [List.getElem?_set] at hj
      by_cases z : i = j
      · rw [if_pos z] at hj
        split at hj <;> cases hj
      · rw [if_neg z] at hj
        exact z (rel.inj i j (.l ds) es x hi hj x1 ej)
    have st : Rel M ((s.set i .no).set i (.d (.lst ds))) (σ.set i (some (.ref x))) (upd G x (.lst vs)) H := fx.setD (.lst upd_at (Vds.mono eg x3))
    rw [set_self x1] at st
    have e2 : (s.set i .no).set i (.d (.lst ds)) = s.set i (.d (.lst ds)) := by simp [S.set]
    rw [e2] at st
    exact a _ σ _ H _ _ st h (e.up eg)
  · exact h.elim
end
end DL
namespace DL
open PySem PySem.Spec PyProof.Rows L2
/-! ### own errors -/
/-- Base.__init__(self, ..), Base an own class over ValueError without an __init__ -/
theorem pe_binit {X : Cx} {x : Str} {B : Addr} {e : Expr} {es : List Expr} {ta : TA} {p1 p2 pos : Pos} {pl : Sem Bool} (hg : Gl X x) (hm : X.mg x = some (.ref B)) (hrd : PySem.W.readsIn X.K B (.type "type") = true) (hga : PySem.W.specialIn X.K (.ref B) "__getattribute__" = some (some (.builtin "type.__getattribute__")))
    (vV : PySem.W.findCls X.K (.ref B) (.type "type") "__init__" = some (.val (.builtin "ValueError.__init__"))) (ha : PA X (e :: es) ta)
    (hc : eval (.Call (.Attribute (.Name x p1) "__init__" p2) (e :: es) [] pos) X.env = (do
      let ov ← eval (.Name x p1) X.env
      standAt p2.atName
      let (f, first) ← holding [ov] (getMethod ov "__init__" pl)
      callWith pos f first (backTo pos (starEach (e :: es) X.env)) (backToKw pos (keywordEach [] X.env))) := by rfl)
    (hdb : (x == ("__debug__" : Str)) = false := by decide) (he : starEach (e :: es) X.env = (false, eval e X.env) :: starEach es X.env := by rfl) (hpl : (backTo pos (starEach es X.env)).any (·.1) = false := by rfl) :
    PE X (.Call (.Attribute (.Name x p1) "__init__" p2) (e :: es) [] pos) (tVeI X.K ta) := by
  refine ⟨fun pins s σ H Q I h => ?_⟩
  refine PySem.W.methodCall_KW (ld_glob I hg hm ?_ hdb) hc
  refine PySem.W.method_cls I.kIn hga (PySem.W.cls_value I.kIn hrd vV (by decide +kernel) ?_)
  show wpAny _ _ (callWith pos (Value.builtin "ValueError.__init__") [] (backTo pos (starEach (e :: es) X.env)) []) _ _ _
  refine PyProof.Rows.callWith_method1 (thn (ha.run pos pins _ σ H _ (I.tok _) h) fun us s1 ⟨vs, H1, I1, r1, a, C, ws, ev, hl, T, ea, q⟩ => ?_) he hpl
  subst ev
  cases r1 with
  | @cons _ u0 _ ur ra rw' =>
    obtain rfl : u0 = Value.ref a := ra
    have hlen : ur.length ≤ sizeLine := by
      rw [← Paired.length rw', sizeLine_eq]
      omega
    exact oinit_ok T I1 ea hlen fun s' J => ⟨.non, H1, J, rfl, q⟩
/-- what an own error's __init__ does: its fields, in order -/
def Fin (H : Hp) (a C d : Addr) (fs : List (Str × V)) (H' : Hp) : Prop := H' a = some (exo a C (some d)) ∧ H' d = some (exd d fs) ∧ ∀ b, b ≠ a → b ≠ d → H' b = H b
def spE (K : PySem.W.Frag) (C : Addr) (fls : List Str) : Sp := fun vs H Q _ => ∃ (a : Addr) (ys : List V), vs = .ref a :: ys ∧ ys.length = fls.length ∧ OexC K C ∧ (∀ f ∈ fls, PySem.W.findIn K (.ref C) f = some none) ∧ H a = some (exo a C none) ∧
  ∀ d H', H d = none → d ≠ a → Fin H a C d (fls.zip ys).reverse H' → Q .non H'
section
variable {K : PySem.W.Frag} {C : Addr} {f1 f2 f3 : Str} {z : Str} {vs : List V} {H : Hp} {Q : VK} {E : XK}
abbrev tVe (K : PySem.W.Frag) (z : Str) : TS := tDrop (tVeI K (tCons (tVar 0) (tCons (tC (.str z)) tNil)))
theorem fin1 {a d : Addr} {y : V} (hd : H d = none) (na : d ≠ a) : Fin H a C d [(f1, y)] (upd (upd H d (exd d [(f1, y)])) a (exo a C (some d))) :=
  ⟨upd_at, (upd_ne na).trans upd_at, fun b h1 h2 => (upd_ne h1).trans (upd_ne h2)⟩
theorem Fin.more {a d : Addr} {y : V} {fs : List (Str × V)} {H' : Hp} {f : Str} (na : d ≠ a) (h : Fin H a C d fs H') : Fin H a C d ((f, y) :: fs) (upd H' d (exd d ((f, y) :: fs))) :=
  ⟨(upd_ne na.symm).trans h.1, upd_at, fun b h1 h2 => (upd_ne h2).trans (h.2.2 b h1 h2)⟩
theorem semE1 (h : spE K C [f1] vs H Q E) : tSeq (tVe K z) (tOst K f1 (tVar 0) (tVar 1)) { nx := fun _ H' => Q .non H', rt := Q } (L2.start ["self", f1] vs) H := by
  obtain ⟨a, ys, rfl, hl, T, no, ha, q⟩ := h
  match ys, hl with
  | [y], _ =>
    refine ⟨_, rfl, a, C, [.str z], rfl, (show (1 : Nat) ≤ 1000 by decide), T, ha, ?_⟩
    exact ⟨_, rfl, _, rfl, a, C, rfl, T, no f1 (by simp), .inl ⟨ha, fun d hd na => q d _ hd na (fin1 hd na)⟩⟩
theorem semE2 (h : spE K C [f1, f2] vs H Q E) : tSeq (tVe K z) (tSeq (tOst K f1 (tVar 0) (tVar 1)) (tOst K f2 (tVar 0) (tVar 2))) { nx := fun _ H' => Q .non H', rt := Q } (L2.start ["self", f1, f2] vs) H := by
  obtain ⟨a, ys, rfl, hl, T, no, ha, q⟩ := h
  match ys, hl with
  | [y, y2], _ =>
    refine ⟨_, rfl, a, C, [.str z], rfl, (show (1 : Nat) ≤ 1000 by decide), T, ha, ?_⟩
    refine ⟨_, rfl, _, rfl, a, C, rfl, T, no f1 (by simp), .inl ⟨ha, fun d hd na => ?_⟩⟩
    have fi := fin1 (C := C) (f1 := f1) (y := y) hd na
    exact ⟨_, rfl, _, rfl, a, C, rfl, T, no f2 (by simp), .inr ⟨d, _, fi.1, fi.2.1, by simp, q d _ hd na (fi.more na)⟩⟩
theorem semE3 (h : spE K C [f1, f2, f3] vs H Q E) : tSeq (tVe K z) (tSeq (tOst K f1 (tVar 0) (tVar 1)) (tSeq (tOst K f2 (tVar 0) (tVar 2)) (tOst K f3 (tVar 0) (tVar 3)))) { nx := fun _ H' => Q .non H', rt := Q } (L2.start ["self", f1, f2, f3] vs) H := by
  obtain ⟨a, ys, rfl, hl, T, no, ha, q⟩ := h
  match ys, hl with
  | [y, y2, y3], _ =>
    refine ⟨_, rfl, a, C, [.str z], rfl, (show (1 : Nat) ≤ 1000 by decide), T, ha, ?_⟩
    refine ⟨_, rfl, _, rfl, a, C, rfl, T, no f1 (by simp), .inl ⟨ha, fun d hd na => ?_⟩⟩
    have fi := fin1 (C := C) (f1 := f1) (y := y) hd na
    refine ⟨_, rfl, _, rfl, a, C, rfl, T, no f2 (by simp), .inr ⟨d, _, fi.1, fi.2.1, by simp, ?_⟩⟩
    have fj := fi.more (f := f2) (y := y2) na
    exact ⟨_, rfl, _, rfl, a, C, rfl, T, no f3 (by simp), .inr ⟨d, _, fj.1, fj.2.1, by simp, q d _ hd na (fj.more na)⟩⟩
end
section
variable {P : Program} {w : World} {K : PySem.W.Frag} {mg : Str → Option Value} {base : Heap} {k : Nat} {M : Cm} {F : Fam P w K mg base k}
/-- raise C(e, ..) -/
@[simp] def dRaise (C : Addr) (fls : List Str) (RX : DX → Int → Prop) (ψ : DA) : DS := fun s _ => ψ s fun ds s1 => ds.length = fls.length ∧ fls.length ≤ 900 ∧ RX ⟨C, fls, ds⟩ s1.c
/-- an own error's class and its __init__ -/
structure Err (P : Program) (w : World) (K : PySem.W.Frag) (mg : Str → Option Value) (base : Heap) (x : Str) (C : Addr) (fls : List Str) : Prop where
  gl : mg x = some (.ref C)
  cls : OexC K C
  ini : ∃ fI fd, PySem.W.findIn K (.ref C) "__init__" = some (some (.ref fI)) ∧ PySem.W.typeIn K (.ref fI) = some (.type "function") ∧ FnOk P w K mg base CX0 1 fI fd ("self" :: fls) (spE K C fls) ∧ Binds K fd ("self" :: fls) []
  no : ∀ f ∈ fls, PySem.W.findIn K (.ref C) f = some none
theorem s_raise {x : Str} {C : Addr} {fls : List Str} {e : Expr} {es : List Expr} {p pos rpos : Pos} {ψ : DA} {RX : DX → Int → Prop} (T : Err P w K mg base x C fls) (hk : 2 ≤ k) (ha : EA M F (e :: es) ψ) (hE : XS M F.E RX) (ni : Nice M) (tk : ∀ j, Takes (F.X j) (fun cls d _ H => F.E cls d H)) (hg : ∀ j, Gl (F.X j) x)
    (hdb : (x == ("__debug__" : Str)) = false := by decide) (he : ∀ j, starEach (e :: es) (F.X j).env = (false, eval e (F.X j).env) :: starEach es (F.X j).env := by intro _; rfl) (hpl : ∀ j, (backTo pos (starEach es (F.X j).env)).any (·.1) = false := by intro _; rfl) :
    SD M F (.Raise (some (.Call (.Name x p) (e :: es) [] pos)) none rpos) (dRaise C fls RX ψ) := by
  obtain ⟨t, q, a⟩ := ha
  obtain ⟨fI, fd, i1, i2, Fn, bd⟩ := T.ini
  refine ⟨fun _ σ H => tMkO C (spE K C fls) [] t σ H fun cls d H' => F.E cls d H', fun j => ?_, fun s σ G H E Dn rel h en => ?_⟩
  · have Fn' : FnOk (F.X j).prog (F.X j).w (F.X j).K (F.X j).mg (F.X j).base CX0 1 fI fd ("self" :: fls) (spE K C fls) := by rw [F.hP j, F.hw j, F.hK j, F.hm j, F.hb j]; exact Fn
    exact ps_raise (F.hc j) (tk j) (pmk_oex (by rw [F.hK j]; exact T.cls) (by rw [F.hK j]; exact i1) (by rw [F.hK j]; exact i2) Fn' ((F.hr j).mono hk) (by rw [F.hK j]; exact bd) .nil pass0 (hg j) (by rw [F.hm j]; exact T.gl) (q j) hdb (he j) (hpl j))
  · refine a s σ G H _ _ rel h fun ds s1 vs G1 H1 h1 r1 g1 hvs => ?_
    obtain ⟨l1, l2, h1⟩ := h1
    have lv := hvs.len
    refine ⟨by omega, fun b hb => ⟨b, vs, by simp, by omega, T.cls, T.no, upd_at, fun d H' hd nd fi => ⟨rfl, d, _, fi.1, fi.2.1, (upd_ne nd).symm.trans hd, ?_⟩⟩⟩
    have hd1 : H1 d = none := (upd_ne nd).symm.trans hd
    have eq : upd (del H' b) d (.xd (fls.zip vs).reverse) = upd H1 d (.xd (fls.zip vs).reverse) := by
      funext c
      by_cases c1 : c = d
      · subst c1
        rw [upd_at, upd_at]
      · rw [upd_ne c1, upd_ne c1]
        by_cases c2 : c = b
        · subst c2
          rw [del_same, hb]
        · rw [del_ne c2, fi.2.2 c c2 c1, upd_ne c2]
    rw [eq]
    exact hE _ _ _ _ G1 _ h1 ((r1.lay hd1).frOk ni) ⟨rfl, d, vs, rfl, upd_at, (show fls.length = vs.length by omega), hvs⟩
end
end DL
namespace DL
open PySem PySem.Spec PyProof.Rows L2
section
variable {P : Program} {w : World} {K : PySem.W.Frag} {mg : Str → Option Value} {base : Heap} {k : Nat} {M : Cm} {F : Fam P w K mg base k}
/-! ### enumerate, zip -/
@[simp] def enL : Nat → List D → List D
  | _, [] => []
  | n, d :: ds => .tup [.int n, d] :: enL (n + 1) ds
theorem enL_len : ∀ (ds : List D) (n : Nat), (enL n ds).length = ds.length
  | [], _ => rfl
  | d :: ds, n => congrArg Nat.succ (enL_len ds (n + 1))
theorem enL_get : ∀ (ds : List D) (n i : Nat) (d : D), ds[i]? = some d → (enL n ds)[i]? = some (.tup [.int ((n + i : Nat) : Int), d])
  | [], _, i, d, h => by cases h
  | d :: ds, n, 0, e, h => by cases h; rfl
  | d :: ds, n, i + 1, e, h => by
    have := enL_get ds (n + 1) i e h
    have e2 : n + 1 + i = n + (i + 1) := by omega
    rw [e2] at this
    exact this
theorem over_enT {G : Hp} {a : Addr} {vs : List V} {ds : List D} (ha : G a = some (.tup vs)) (hv : Vds G vs ds) : Over (IteT K a) G (enL 0 ds) := by
  intro G' H' e e2
  have q : SqT K H' a vs := .inl (.inl (e2 _ _ (e _ _ ha)))
  rw [enL_len]
  refine ⟨fun i hi => ?_, vs, q, by rw [hv.len]; exact Nat.le_refl _⟩
  obtain ⟨d, hd, v, hv1, hv2⟩ := vds_at hv hi
  refine ⟨⟨vs, v, q, hv1⟩, fun x H'' y => ⟨_, enL_get ds 0 i d hd, .inr ?_⟩⟩
  obtain ⟨T, x', rfl, hT, rfl, y⟩ := y
  have := y vs q
  rw [hv1] at this
  cases this
  refine ⟨T, _, hT, rfl, .tup upd_at (.cons ?_ (.cons (Vd.mono (e.tr (ex_new (ex_none e2 hT))) hv2) .nil))⟩
  rw [Nat.zero_add]
  exact .int _
theorem over_enL {G : Hp} {a : Addr} {vs : List V} {ds : List D} (ha : G a = some (.lst vs)) (hv : Vds G vs ds) : Over (Ite K a) G (enL 0 ds) := by
  intro G' H' e e2
  have q : SqL K H' a vs := .inl (.inl (e2 _ _ (e _ _ ha)))
  rw [enL_len]
  refine ⟨fun i hi => ?_, vs, q, by rw [hv.len]; exact Nat.le_refl _⟩
  obtain ⟨d, hd, v, hv1, hv2⟩ := vds_at hv hi
  refine ⟨⟨vs, v, q, hv1⟩, fun x H'' y => ⟨_, enL_get ds 0 i d hd, .inr ?_⟩⟩
  obtain ⟨T, x', rfl, hT, rfl, y⟩ := y
  have := y vs q
  rw [hv1] at this
  cases this
  refine ⟨T, _, hT, rfl, .tup upd_at (.cons ?_ (.cons (Vd.mono (e.tr (ex_new (ex_none e2 hT))) hv2) .nil))⟩
  rw [Nat.zero_add]
  exact .int _
@[simp] def dEnT (ψ : DA) : DA := fun s R => ψ s fun ds s1 => match ds with
  | [.tup xs] => R (enL 0 xs) s1
  | _ => False
@[simp] def dEnL (ψ : DA) : DA := fun s R => ψ s fun ds s1 => match ds with
  | [.lst xs] => R (enL 0 xs) s1
  | _ => False
theorem id_enum {e : Expr} {p pos tpos : Pos} {elts : List Expr} {kk : Nat} {ψ : DA} (h : EA M F [e] ψ) (hg : ∀ j, Gl (F.X j) "enumerate") (hm : mg "enumerate" = none) (hs : ∀ j, starEach [e] (F.X j).env = [(false, eval e (F.X j).env)] := by intro _; rfl) :
    ID M F (.Tuple elts kk tpos) (.Call (.Name "enumerate" p) [e] [] pos) (dEnT ψ) := by
  obtain ⟨t, q, b⟩ := h
  refine ⟨iEnT K t, fun j => by have := pi_ent (p := p) (pos := pos) (tpos := tpos) (elts := elts) (kk := kk) (hg j) (by rw [F.hm j]; exact hm) (q j) (hs j); rw [F.hK j] at this; exact this, fun s σ G H R Q rel h q => ?_⟩
  refine b s σ G H _ _ rel h fun ds s1 vs G1 H1 h1 r1 g1 hvs => ?_
  split at h1
  · cases hvs with
    | cons a t =>
      cases t
      cases a with
      | @tup x us _ hp hv => exact ⟨x, us, rfl, .inl (.inl (r1.ex _ _ hp)), q _ _ _ _ _ h1 r1 g1 (over_enT hp hv)⟩
  · exact h1.elim
theorem id_enumL {e : Expr} {p pos tpos : Pos} {elts : List Expr} {kk : Nat} {ψ : DA} (h : EA M F [e] ψ) (hg : ∀ j, Gl (F.X j) "enumerate") (hm : mg "enumerate" = none) (hs : ∀ j, starEach [e] (F.X j).env = [(false, eval e (F.X j).env)] := by intro _; rfl) :
    ID M F (.Tuple elts kk tpos) (.Call (.Name "enumerate" p) [e] [] pos) (dEnL ψ) := by
  obtain ⟨t, q, b⟩ := h
  refine ⟨iEnum K t, fun j => by have := pi_enum (p := p) (pos := pos) (tpos := tpos) (elts := elts) (kk := kk) (hg j) (by rw [F.hm j]; exact hm) (q j) (hs j); rw [F.hK j] at this; exact this, fun s σ G H R Q rel h q => ?_⟩
  refine b s σ G H _ _ rel h fun ds s1 vs G1 H1 h1 r1 g1 hvs => ?_
  split at h1
  · cases hvs with
    | cons a t =>
      cases t
      cases a with
      | @lst x us _ hp hv => exact ⟨x, us, rfl, .inl (.inl (r1.ex _ _ hp)), q _ _ _ _ _ h1 r1 g1 (over_enL hp hv)⟩
  · exact h1.elim
/-! ### target = value; unpacking a list -/
@[simp] def dAsg (φ : DE) (γ : D → S → (S → Prop) → Prop) : DS := fun s E => φ s fun d s1 => γ d s1 E.nx
theorem s_asg {vs : List Nat} {tg e : Expr} {pos : Pos} {φ : DE} {γ : D → S → (S → Prop) → Prop} (he : ED M F e φ) (hg : GD M F vs tg γ) (hs : ∀ j, swapsWithSole [tg] e pos.line (F.X j).env = pure false := by intro _; rfl) (hw : ∀ j, swappedStores [tg] e (F.X j).env = pure none := by intro _; rfl) (h1 : ∀ j, (assignEach [tg] (F.X j).env).map (·.2) = [assign tg (F.X j).env] := by intro _; rfl) : SD M F (.Assign [tg] e pos) (dAsg φ γ) := by
  obtain ⟨t, p, a⟩ := he
  obtain ⟨g, p2, b⟩ := hg
  refine ⟨_, fun j => ps_asg (p j) (p2 j) (hs j) (hw j) (h1 := h1 j), fun s σ G H E Dn rel h en => ?_⟩
  refine a s σ G H _ _ rel h fun d s1 v G1 H1 h1 r1 g1 hv => ?_
  exact b v d s1 σ G1 H1 _ _ r1 hv h1 fun s2 σ2 h2 r2 _ _ => en.nx _ _ _ _ h2 r2 g1.ex
@[simp] def gLs (n : Nat) (δ : List D → S → (S → Prop) → Prop) : D → S → (S → Prop) → Prop := fun d s R => match d with
  | .lst ds => ds.length = n ∧ δ ds s R
  | _ => False
theorem g_unl {vs : List Nat} {es : List Expr} {kk : Nat} {pos : Pos} {δ : List D → S → (S → Prop) → Prop} (n : Nat) (h : GsD M F vs es δ) (hn : ∀ j, (assignEach es (F.X j).env).length = n := by intro _; rfl) (hst : ∀ j, (assignEach es (F.X j).env).findIdx? (·.1) = none := by intro _; rfl) :
    GD M F vs (.Tuple es kk pos) (gLs n δ) := by
  obtain ⟨t, p, a⟩ := h
  refine ⟨gUnl K n t, fun j => by have := pg_unl (k := kk) (pos := pos) (F.hc j) (p j) (hn j) (hst j); rw [F.hK j] at this; exact this, fun v d s σ G H R Q rel hv h q => ?_⟩
  unfold gLs at h
  split at h
  · cases hv with
    | @lst x us ds hx hvs => exact ⟨x, us, rfl, .inl (.inl (rel.ex _ _ hx)), by rw [hvs.len]; exact h.1, a _ _ s σ G H _ _ rel hvs h.2 q⟩
  · exact h.elim
/-! ### a, b = x, y -/
def FrV (M : Cm) (s : S) (σ : L2.St) (G H : Hp) : Slot → V → Prop
  | .d x, v => Vd G v x
  | .own ds, v => ∃ a o, v = .ref a ∧ H a = some o ∧ OV G ds o ∧ G a = none ∧ M.H0 a = none ∧ OwnOk M a ∧ ∀ (i : Nat) (es : OD), s.sl[i]? = some (.own es) → σ[i]? ≠ some (some (.ref a))
  | _, _ => False
abbrev DP := S → (Slot → S → Prop) → Prop
def PSnd (M : Cm) (t : TE) (φ : DP) : Prop := ∀ (s : S) (σ : L2.St) (G H : Hp) (R : Slot → S → Prop) (Q : VK), Rel M s σ G H → φ s R → (∀ x s' v G' H', R x s' → Rel M s' σ G' H' → Go M σ s G H s' G' H' → FrV M s' σ G' H' x v → (∀ ds, x = .own ds → ∃ a, v = .ref a ∧ H a = none) → Q v H') → t σ H Q
variable (M F) in
def EP (e : Expr) (φ : DP) : Prop := ∃ t, (∀ i, PE (F.X i) e t) ∧ PSnd M t φ
@[simp] def pD (φ : DE) : DP := fun s R => φ s fun d s1 => R (.d d) s1
@[simp] def pO (φ : DA) : DP := fun s R => φ s fun ds s1 => R (.own (.l ds)) s1
theorem p_d {e : Expr} {φ : DE} (h : ED M F e φ) : EP M F e (pD φ) := by
  obtain ⟨t, p, a⟩ := h
  exact ⟨t, p, fun s σ G H R Q rel h q => a s σ G H _ _ rel h fun d s1 v G1 H1 h1 r1 g1 hv => q _ _ _ _ _ h1 r1 g1 hv fun ds e => nomatch e⟩
theorem p_own {e : Expr} {φ : DA} (h : EL M F e φ) : EP M F e (pO φ) := by
  obtain ⟨t, p, a⟩ := h
  exact ⟨t, p, fun s σ G H R Q rel h q => a s σ G H _ _ rel h fun ds s1 x vs G1 H1 h1 r1 g1 hvs hn hx f1 f2 f3 f4 => q _ _ _ _ _ h1 r1 g1 ⟨x, _, rfl, hx, ⟨vs, rfl, hvs⟩, f1, f2, f3, f4⟩ fun _ _ => ⟨x, rfl, hn⟩⟩
@[simp] def dPar (i j : Nat) (φ ψ : DP) : DS := fun s E => φ s fun x s1 => ψ s1 fun y s2 => E.nx ((s2.set i x).set j y)
theorem FrV.set {s : S} {σ : L2.St} {G H : Hp} {x : Slot} {v : V} {i : Nat} (R : Rel M s σ G H) (h : FrV M s σ G H x v) : Rel M (s.set i x) (σ.set i (some v)) G H := by
  cases x with
  | no => exact h.elim
  | pen => exact h.elim
  | d x => exact R.setD h
  | own ds =>
    obtain ⟨a, vs, rfl, h1, h2, h3, h4, h5, h6⟩ := h
    refine R.set ⟨a, vs, rfl, h1, h2, h3, h4, h5⟩ fun es b j fs e1 e2 nj hj => ?_
    cases e2
    exact h6 j fs hj
theorem s_par {i j : Nat} {a b : Expr} {φ ψ : DP} {st : Stmt} (h1 : EP M F a φ) (h2 : EP M F b ψ) (hij : i ≠ j) (hst : ∀ t u : TE, (∀ q, PE (F.X q) a t) → (∀ q, PE (F.X q) b u) → ∀ q, PS (F.X q) st (tPar i j (tCons t (tCons u tNil)))) : SD M F st (dPar i j φ ψ) := by
  obtain ⟨t, p, a⟩ := h1
  obtain ⟨u, p2, b⟩ := h2
  refine ⟨_, hst t u p p2, fun s σ G H E Dn rel h en => ?_⟩
  refine a s σ G H _ _ rel h fun x s1 v G1 H1 h1 r1 g1 fx nx => ?_
  refine b s1 σ G1 H1 _ _ r1 h1 fun y s2 v2 G2 H2 h2 r2 g2 fy ny => ⟨v, v2, rfl, ?_⟩
  -- the first value stands
  have fx2 : FrV M s2 σ G2 H2 x v := by
    cases x with
    | no => exact fx
    | pen => exact fx
    | d x => exact Vd.mono g2.ex fx
    | own ds =>
      obtain ⟨c, vs, rfl, k1, k2, k3, k4, k5, k6⟩ := fx
      obtain ⟨e1, e2⟩ := g2.old c (by rw [k1]; exact fun z => nomatch z) ⟨k5.fr, k6⟩
      refine ⟨c, vs, rfl, e1.trans k1, k2.mono g2.ex, e2.trans k3, k4, k5, fun l es hl => ?_⟩
      obtain ⟨es', hl'⟩ := (g2.own l).mp ⟨es, hl⟩
      exact k6 l es' hl'
  have r3 := fx2.set r2 (i := i)
  have fy3 : FrV M (s2.set i x) (σ.set i (some v)) G2 H2 y v2 := by
    cases y with
    | no => exact fy
    | pen => exact fy
    | d y => exact fy
    | own es =>
      obtain ⟨c, vs, rfl, k1, k2, k3, k4, k5, k6⟩ := fy
      refine ⟨c, vs, rfl, k1, k2, k3, k4, k5, fun l fs hl hz => ?_⟩
      have hl : (s2.sl.set i x)[l]? = some (.own fs) := hl
      rw [List.getElem?_set] at hl hz
      by_cases e : i = l
      · rw [if_pos e] at hl hz
        split at hl
        · cases hl
          split at hz
          · cases hz
            obtain ⟨c1, vs1, e1, w1, _⟩ := fx
            cases e1
            obtain ⟨c2, e2, hn⟩ := ny es rfl
            cases e2
            rw [w1] at hn
            cases hn
          · cases hz
        · cases hl
      · rw [if_neg e] at hl hz
        exact k6 l fs hl hz
  exact en.nx _ _ _ _ h2 (fy3.set r3) (g1.ex.tr g2.ex)
/-- over a variable's value, a list or a tuple -/
@[simp] def dSeqV (i : Nat) : DA := fun s R => match s.sl[i]? with
  | some (.d (.lst ds)) => R ds s
  | some (.d (.tup ds)) => R ds s
  | _ => False
theorem pi_or {X : Cx} {tg e : Expr} {wi wj : TI} (h1 : PI X tg e wi) (h2 : PI X tg e wj) : PI X tg e (fun σ H R => wi σ H R ∨ wj σ H R) := ⟨fun pins s σ H R I h => h.elim (h1.run pins s σ H R I) (h2.run pins s σ H R I)⟩
theorem id_seqV (i : Nat) {tg e : Expr} (h : ∀ j, PE (F.X j) e (tVar i)) : ID M F tg e (dSeqV i) := by
  refine ⟨fun σ H R => iList K (tVar i) σ H R ∨ iTup K (tVar i) σ H R, fun j => by have := pi_or (pi_list (tg := tg) (h j)) (pi_tup (tg := tg) (h j)); rw [F.hK j] at this; exact this, fun s σ G H R Q rel h q => ?_⟩
  unfold dSeqV at h
  split at h
  · rename_i ds hi
    obtain ⟨v, e, hv⟩ := rel.getD hi
    cases hv with
    | @lst x vs ds hx hvs => exact .inl ⟨_, e, x, rfl, ⟨vs, .inl (.inl (rel.ex _ _ hx))⟩, q _ _ _ _ _ h rel Go.rf (over_list hx hvs)⟩
  · rename_i ds hi
    obtain ⟨v, e, hv⟩ := rel.getD hi
    cases hv with
    | @tup x vs ds hx hvs => exact .inr ⟨_, e, x, rfl, ⟨vs, .inl (.inl (rel.ex _ _ hx))⟩, q _ _ _ _ _ h rel Go.rf (over_tup hx hvs)⟩
  · exact h.elim
/-! ### left.pop(e), len of one's own list, list(range(n)), list + list, list * n -/
theorem seqIx {n : Int} {l : Nat} (h0 : 0 ≤ n) (hl : n < l) : seqIndex? n l = some n.toNat := by
  have e : ixN l n = some n.toNat := by
    unfold ixN
    rw [if_pos h0, if_pos hl]
  exact (ixN_seq e).1
theorem e_popO (i : Nat) {o e : Expr} {apos cpos : Pos} {φ : DE} (hv : ∀ j, PE (F.X j) o (tVar i)) (he : ED M F e φ) (hb : ∀ j, attributeBase o "pop" (F.X j).env (eval o (F.X j).env) = eval o (F.X j).env := by intro _; rfl)
    (hfew : ∀ j, ((backTo cpos (starEach [e] (F.X j).env)).all (fun x => !x.1) && (backToKw cpos (keywordEach [] (F.X j).env)).all (fun x => x.1.isSome) && decide (([e] : List Expr).length + ([] : List Keyword).length + (if ([] : List Keyword).isEmpty then 0 else 1) < 30)) = true := by intro _; rfl)
    (hline : (apos.endLine == cpos.line) = true := by rfl) (hs : ∀ j, starEach [e] (F.X j).env = (false, eval e (F.X j).env) :: starEach [] (F.X j).env := by intro _; rfl) (hpl : ∀ j, (backTo cpos (starEach [] (F.X j).env)).any (·.1) = false := by intro _; rfl) :
    ED M F (.Call (.Attribute o "pop" apos) [e] [] cpos) (dPop i φ) := by
  obtain ⟨t, p, a⟩ := he
  refine ⟨tBM K "list" rPopAt (tVar i) (tCons t tNil), fun j => by
    have := pe_bm (apos := apos) (cpos := cpos) PySem.F.plainAttrs_list PySem.F.slot_list_pop PySem.F.type_list_pop mt_popAt (hv j) (pa_cons (p j) pa_nil (hs j)) (hb j) (hfew j) hline (hs j) (hpl j)
    rw [F.hK j] at this
    exact this, fun s σ G H R Q rel h q => ?_⟩
  obtain ⟨h0, h⟩ := h
  split at h0
  · rename_i ds0 hi0
    obtain ⟨x, vs0, x1, x2, x3, _⟩ := rel.getL hi0
    refine ⟨_, x1, .inl ⟨rfl, _, .inl (.inl x2)⟩, ?_⟩
    refine a s σ G H _ _ rel h fun d s1 v G1 H1 h1 r1 g1 hv => ?_
    split at h1
    · rename_i n ds hi
      obtain ⟨n0, n1, y, hy, hR⟩ := h1
      cases hv
      obtain ⟨z, vs, y1, y2, y3, y4, y5, y6⟩ := r1.getL hi
      rw [x1] at y1
      cases y1
      obtain ⟨yv, e1, e2⟩ := y3.get hy
      have hl : n.toNat < vs.length := (List.getElem?_eq_some_iff.mp e1).1
      refine ⟨x, vs, n, n.toNat, yv, rfl, rfl, y2, by omega, by omega, seqIx n0 (by omega), e1, ?_⟩
      have r2 := r1.put hi x1 (es := .l (ds.eraseIdx n.toNat)) ⟨_, rfl, y3.erase n.toNat⟩
      refine q _ _ _ _ _ hR r2 (g1.tr ⟨Ex.rf _, fun b hb ho => ⟨upd_ne fun z => ho.2 i (.l ds) hi (by rw [x1, z]), rfl⟩, fun l => ?_⟩) e2
      show (∃ es, (s1.sl.set i (.own (.l (ds.eraseIdx n.toNat))))[l]? = some (.own es)) ↔ _
      rw [List.getElem?_set]
      by_cases e : i = l
      · have il : i < s1.sl.length := (List.getElem?_eq_some_iff.mp hi).1
        rw [if_pos e, if_pos il, ← e]
        exact ⟨fun _ => ⟨.l ds, hi⟩, fun _ => ⟨_, rfl⟩⟩
      · rw [if_neg e]
    · exact h1.elim
  · exact h0.elim
@[simp] def dLenO (i : Nat) : DE := fun s R => match s.sl[i]? with
  | some (.own (.l ds)) => R (.int ds.length) s
  | _ => False
theorem e_lenO (hm : mg "len" = none) (i : Nat) {p pos : Pos} {a : Expr} (hv : ∀ j, PE (F.X j) a (tVar i)) (hg : ∀ j, Gl (F.X j) "len") (he : ∀ j, starEach [a] (F.X j).env = (false, eval a (F.X j).env) :: starEach [] (F.X j).env := by intro _; rfl) (hpl : ∀ j, (backTo pos (starEach [] (F.X j).env)).any (·.1) = false := by intro _; rfl) :
    ED M F (.Call (.Name "len" p) [a] [] pos) (dLenO i) := by
  refine ⟨tCB (fun xs H Q => ∃ p ys, xs = [.ref p] ∧ (SqL K H p ys ∨ SqT K H p ys) ∧ Q (.int ys.length) H) (tCons (tVar i) tNil), fun j => pe_callB (by have := call_len_seq (X := F.X j); rw [F.hK j] at this; exact this) (hg j) (by rw [F.hm j]; exact hm) PySem.boot_len (pa_cons (hv j) pa_nil (he j)) (by decide) (by decide) (he j) (hpl j), fun s σ G H R Q rel h q => ?_⟩
  unfold dLenO at h
  split at h
  · rename_i ds hi
    obtain ⟨x, vs, x1, x2, x3, _⟩ := rel.getL hi
    exact ⟨_, x1, x, vs, rfl, .inl (.inl (.inl x2)), q _ _ _ _ _ h rel Go.rf (by rw [x3.len]; exact .int _)⟩
  · exact h.elim
@[simp] def lRng (φ : DE) : DA := fun s R => φ s fun d s1 => match d with
  | .int n => (-10000 ≤ n ∧ n ≤ 10000) ∧ R (rgD n.toNat) s1
  | _ => False
theorem vds_rg {G : Hp} {n : Int} : Vds G (rgV 0 n) (rgD n.toNat) := by
  have key : ∀ l : List Nat, Vds G (l.map fun i => V.int (0 + (i : Nat))) (l.map fun i => D.int (Int.ofNat i)) := fun l => by
    induction l with
    | nil => exact .nil
    | cons a l ih =>
      refine .cons ?_ ih
      have e : (0 + (a : Int)) = Int.ofNat a := Int.zero_add _
      show Vd G (.int (0 + (a : Nat))) _
      rw [e]
      exact .int _
  unfold rgV rgD
  have e : (n - 0).toNat = n.toNat := by rw [Int.sub_zero]
  rw [e]
  exact key _
theorem l_lrange {a : Expr} {p p2 pos pos2 : Pos} {φ : DE} (hl : mg "list" = none) (hr : mg "range" = none) (h : ED M F a φ) (hg : ∀ j, Gl (F.X j) "list") (hg2 : ∀ j, Gl (F.X j) "range") (na : ∀ j, starEach [a] (F.X j).env = (false, eval a (F.X j).env) :: starEach [] (F.X j).env := by intro _; rfl)
    (nb : ∀ j, starEach [.Call (.Name "range" p2) [a] [] pos2] (F.X j).env = (false, eval (.Call (.Name "range" p2) [a] [] pos2) (F.X j).env) :: starEach [] (F.X j).env := by intro _; rfl) : EL M F (.Call (.Name "list" p) [.Call (.Name "range" p2) [a] [] pos2] [] pos) (lRng φ) := by
  obtain ⟨t, q, b⟩ := h
  refine ⟨_, fun j => pe_listRg (F.hc j) (hg j) (by rw [F.hm j]; exact hl) (prg_1 (hg2 j) (by rw [F.hm j]; exact hr) (q j) (na j)) (nb j), fun s σ G H R Q rel h q => ?_⟩
  refine b s σ G H _ _ rel h fun d s1 v G1 H1 h1 r1 g1 hv => ?_
  split at h1
  · rename_i n
    cases hv
    have := h1.1
    refine ⟨n, rfl, ⟨by omega, by omega, by omega, by omega, by omega⟩, fun l hl => ?_⟩
    obtain ⟨f1, f2, f3, f4⟩ := r1.fresh hl
    exact q _ _ _ _ _ _ h1.2 (r1.lay hl) (g1.tr (.lay hl)) vds_rg (g1.none rel r1 hl) upd_at f1 f2 f3 f4
  · exact h1.elim
end
end DL
/-! closures that are called far from where they were made: their cells are pinned -/
namespace Clo
open PySem PySem.Spec PyProof.Rows L2
theorem pin_ok {P : Program} {w : World} {H : Hp} {h : Heap} {c : Addr} {o : Obj} (e : h.get? c = some o) : ObjOk P w H h c (PinO c o) := ⟨e, ⟨_, e⟩, fun h1 h2 z k => k _ z⟩
theorem pin_at {P : Program} {w : World} {H : Hp} {h : Heap} {c : Addr} {o : Obj} (hok : HOk P w H h) (e : H c = some (PinO c o)) : h.get? c = some o := by
  obtain ⟨z, _, _⟩ := hok c _ e
  exact z
theorem lam_at {P : Program} {w : World} {H : Hp} {h : Heap} {f : Addr} {d : CloD} (hok : HOk P w H h) (e : LamAt H f d) : ∃ (pm ctv : Value) (c' : Addr), h.get? f = some (PySem.W.kla_obj "<lambda>" d.qual d.params d.body d.scope d.cl pm c' ctv) ∧ h.CodeRec (.ref c') d.qual := by
  obtain ⟨c', e1, e2⟩ := e
  obtain ⟨⟨pm, ctv, z⟩, _, _⟩ := hok f _ e1
  obtain ⟨⟨oc, vs, t, a1, a2, a3⟩, _, _⟩ := hok c' _ e2
  exact ⟨pm, ctv, c', z, c', oc, vs, t, rfl, a1, a2, a3⟩
abbrev cloEnv (d : CloD) (L f c' : Addr) : Env := PySem.W.envX d.qual d.scope L f (.ref c') d.cl
/-- the context of the body -/
def cloCx (P : Program) (w : World) (K : PySem.W.Frag) (mg : Str → Option Value) (base : Heap) (N : List Str) (A : Around) (outer : List Env) (s : Shared) (H : Hp) (E : XK) (d : CloD) (f c' : Addr) : Cx where
  prog := P
  w := w
  K := K
  mg := mg
  base := base
  A := A.deeper (cloEnv d s.heap.objs.size f c')
  N := N
  s_0 := s
  H_0 := H
  env := cloEnv d s.heap.objs.size f c'
  outer := outer
  stack := cloEnv d s.heap.objs.size f c' :: outer
  ex := []
  fn := fun _ => false
  calm := true
  pn := []
  xe := fun e s' => wpAny (model P w) (A.deeper (cloEnv d s.heap.objs.size f c')) (leaving (cloEnv d s.heap.objs.size f c') e) (fun _ s'' => L2.CX P w outer H s E e s'') (fun e' s'' => L2.CX P w outer H s E e' s'') s'
/-- what the words must be -/
structure CloS (d : CloD) : Prop where
  kind : d.scope.kind = .function
  co : d.scope.isCoroutine = false
  gen : d.scope.isGenerator = false
  own : ∀ y ∈ d.scope.names, y.2 ≠ .local ∧ y.2 ≠ .cell
  has : ∀ y, d.scope.names.lookup y = some .free → ∃ c, d.cl.lookup y = some c
  inj : ∀ y z c, d.cl.lookup y = some c → d.cl.lookup z = some c → y = z
section
variable {P : Program} {w : World} {K : PySem.W.Frag} {mg : Str → Option Value} {base : Heap} {N : List Str}
theorem clo_start {A : Around} {outer : List Env} {s : Shared} {H : Hp} {E : XK} {d : CloD} {f c' : Addr} {σ : L2.St} {h₁ : Heap} {tk : Nat} (W : CloS d) (e0 : Env0 P w K mg base A outer s H) (hd : A.handled = none)
    (hcell : ∀ y c, d.cl.lookup y = some c → H c = none ∧ ∃ v, s.heap.IsCell c v)
    (hval : ∀ (i : Nat) (y : Str) (v : V), N[i]? = some y → σ[i]? = some (some v) → ∃ c u, d.scope.names.lookup y = some .free ∧ d.cl.lookup y = some c ∧ RelV v u ∧ s.heap.IsCell c (some u))
    (hlen : σ.length = N.length) (hns : h₁.Ns s.heap.objs.size fun y => ([] : List (Str × Value)).reverse.lookup y) (kp : ∀ b o, s.heap.get? b = some o → h₁.get? b = some o) :
    Inv (cloCx P w K mg base N A outer s H E d f c') [] σ H { s with heap := h₁, toks := tk } := by
  have cellK : ∀ {c : Addr} {v : Option Value}, s.heap.IsCell c v → h₁.IsCell c v := fun {c v} ⟨o, ho, q⟩ => ⟨o, kp _ _ ho, q⟩
  have noA : ∀ b : Addr, b ∉ (cloCx P w K mg base N A outer s H E d f c').ex := fun b z => absurd (show b ∈ ([] : List Addr) from z) (by simp)
  refine ⟨⟨e0.mod, W.kind, rfl, rfl, Nat.le_refl _, fun y z c e1 e2 => W.inj y z c e1 e2, fun y hy => ?_, fun y c z _ => ?_, fun _ => hd, Around.frames_deeper e0.frames, .inr ⟨rfl, rfl⟩, fun b z => absurd z (noA b), e0.bs, e0.bsz, fun b _ _ => noA b,
      fun b z => absurd z (noA b), e0.funs, e0.frf⟩,
    rfl, e0.bare, Un.kept kp, ⟨_, hns, fun i y v e1 e2 e3 => ?_⟩, fun y c e => ?_, e0.hok.fresh (Nat.le_refl _), fun y c e => ?_, fun q hq => absurd (show q ∈ ([] : List (Addr × Obj)) ++ [] from hq) (by simp), e0.hok.kept kp, hlen⟩
  · have hy : d.scope.names.lookup y = some .cell ∨ d.scope.names.lookup y = some .free := hy
    rcases hy with hy | hy
    · exact absurd rfl (W.own _ (PySem.mem_of_lookup hy)).2
    · exact W.has y hy
  · have z : false = true := z
    cases z
  · obtain ⟨c, u, h1, h2, h3, h4⟩ := hval i y v e1 e2
    exact ⟨u, h3, .inr ⟨.inr h1, c, h2, cellK h4⟩⟩
  · obtain ⟨_, v, z⟩ := hcell y c e
    exact ⟨v, cellK z⟩
  · exact (hcell y c e).1
end
/-! ### the pins are taken out, and put back -/
def unp (cs : List Addr) (H : Hp) : Hp := fun b => if b ∈ cs then none else H b
def rep (cs : List Addr) (H0 H : Hp) : Hp := fun b => if b ∈ cs then H0 b else H b
theorem unp_in {cs : List Addr} {H : Hp} {b : Addr} (h : b ∈ cs) : unp cs H b = none := if_pos h
theorem unp_out {cs : List Addr} {H : Hp} {b : Addr} (h : b ∉ cs) : unp cs H b = H b := if_neg h
theorem rep_in {cs : List Addr} {H0 H : Hp} {b : Addr} (h : b ∈ cs) : rep cs H0 H b = H0 b := if_pos h
theorem rep_out {cs : List Addr} {H0 H : Hp} {b : Addr} (h : b ∉ cs) : rep cs H0 H b = H b := if_neg h
/-- each of cs is pinned -/
def Pins (cs : List Addr) (H : Hp) : Prop := ∀ c ∈ cs, ∃ o, H c = some (PinO c o)
section
variable {P : Program} {w : World} {cs : List Addr} {H H' : Hp} {h h' : Heap}
theorem unp_of {b : Addr} {o : HO} (e : unp cs H b = some o) : b ∉ cs ∧ H b = some o := by
  by_cases z : b ∈ cs
  · rw [unp_in z] at e; cases e
  · rw [unp_out z] at e; exact ⟨z, e⟩
theorem Pins.no {c : Addr} {u : HO} (p : Pins cs H) (e : H c = some u) (n : ∀ o, u ≠ PinO c o) : c ∉ cs := fun z => by
  obtain ⟨o, e'⟩ := p c z
  rw [e] at e'
  exact n o (Option.some.inj e')
theorem pin_own {c a : Addr} {o : Obj} : (HO.own a) ≠ PinO c o := fun z => by cases z
theorem pin_tup {c : Addr} {xs : List V} {o : Obj} : (HO.tup xs) ≠ PinO c o := fun z => by cases z
theorem pin_frz {c : Addr} {q : Obj} {u : HO} {o : Obj} : (HO.frz q u) ≠ PinO c o := fun z => by cases z
theorem pin_tbl {c : Addr} {ps : Array Value} {o : Obj} : (HO.tbl ps) ≠ PinO c o := fun z => by cases z
theorem hok_unp (p : Pins cs H) (k : HOk P w H h) : HOk P w (unp cs H) h := fun b o e => by
  obtain ⟨hb, e⟩ := unp_of e
  refine (k b o e).stay (fun _ _ _ z => z) (fun c hc => ?_) fun c xs hc => ?_
  · rw [unp_out (p.no hc fun o => pin_own)]; exact hc
  · rw [unp_out (p.no hc fun o => pin_tup)]; exact hc
theorem hok_rep (p : Pins cs H) (st : ∀ c ∈ cs, ∀ o, H c = some (PinO c o) → h'.get? c = some o) (no : ∀ c ∈ cs, H' c = none) (k : HOk P w H' h') : HOk P w (rep cs H H') h' := fun b o e => by
  by_cases z : b ∈ cs
  · rw [rep_in z] at e
    obtain ⟨o', e'⟩ := p b z
    rw [e] at e'
    cases e'
    exact pin_ok (st b z o' e)
  · rw [rep_out z] at e
    refine (k b o e).stay (fun _ _ _ z => z) (fun c hc => ?_) fun c xs hc => ?_
    · rw [rep_out fun z' => by rw [no c z'] at hc; cases hc]; exact hc
    · rw [rep_out fun z' => by rw [no c z'] at hc; cases hc]; exact hc
theorem env0_unp {K : PySem.W.Frag} {mg : Str → Option Value} {base : Heap} {A : Around} {outer : List Env} {s : Shared} (p : Pins cs H) (e : Env0 P w K mg base A outer s H) : Env0 P w K mg base A outer s (unp cs H) := by
  have un : ∀ b, H b = none → unp cs H b = none := fun b n => by
    by_cases z : b ∈ cs
    · exact unp_in z
    · rw [unp_out z]; exact n
  exact ⟨e.frames, e.mod, fun b o q => ⟨(e.bs b o q).1, un b (e.bs b o q).2⟩, e.bsz, e.funs, fun b q => un b (e.frf b q), hok_unp p e.hok, e.bare⟩
/-- a call's end -/
theorem ce_rep {K : PySem.W.Frag} {mg : Str → Option Value} {base : Heap} {A : Around} {outer : List Env} {s s' : Shared} {Q Q' : VK} {u : Value} (p : Pins cs H) (e0 : Env0 P w K mg base A outer s H) (c : CE outer P w (unp cs H) s Q u s') (hq : ∀ v H', Q v H' → (∀ c ∈ cs, H' c = none) → Q' v (rep cs H H')) : CE outer P w H s Q' u s' := by
  obtain ⟨v, H', os, bare, un, hok, rv, q⟩ := c
  have here : ∀ c ∈ cs, ∀ o, H c = some (PinO c o) → s.heap.get? c = some o := fun c _ o e => pin_at e0.hok e
  have nf : ∀ c ∈ cs, c ∉ frs outer := fun c hc z => by
    obtain ⟨o, e⟩ := p c hc
    rw [e0.frf c z] at e
    cases e
  have no : ∀ c ∈ cs, H' c = none := fun c hc => by
    obtain ⟨o, e⟩ := p c hc
    exact un.free c o (here c hc o e) (unp_in hc) (by simp)
  have out : ∀ {b : Addr}, H b = none → b ∉ cs := fun {b} n z => by
    obtain ⟨o, e⟩ := p b z
    rw [n] at e
    cases e
  refine ⟨v, rep cs H H', os, bare, ⟨fun b o e n hf hx => un.keep b o e (by rw [unp_out (out n)]; exact n) hf hx, fun b o e n hf hx => un.slot b o e (by rw [unp_out (out n)]; exact n) hf hx,
    fun b o e n hx => by rw [rep_out (out n)]; exact un.free b o e (by rw [unp_out (out n)]; exact n) hx, un.there, fun b xs e => ?_, fun b o v e => ?_, fun b ps e => ?_⟩,
    hok_rep p (fun c hc o e => un.keep c o (here c hc o e) (unp_in hc) (nf c hc) (by simp)) no hok, rv, hq v H' q no⟩
  · have nb := p.no e fun o => pin_tup
    rw [rep_out nb]
    exact un.tups b xs (by rw [unp_out nb]; exact e)
  · have nb := p.no e fun o => pin_frz
    rw [rep_out nb]
    exact un.frzs b o v (by rw [unp_out nb]; exact e)
  · have nb := p.no e fun o => pin_tbl
    rw [rep_out nb]
    exact un.tbls b ps (by rw [unp_out nb]; exact e)
/-- .. by an exception -/
theorem cx_rep {K : PySem.W.Frag} {mg : Str → Option Value} {base : Heap} {A : Around} {outer : List Env} {s s' : Shared} {E E' : XK} {u : Value} (p : Pins cs H) (e0 : Env0 P w K mg base A outer s H) (c : L2.CX P w outer (unp cs H) s E u s') (hq : ∀ cls d H', E cls d H' → (∀ c ∈ cs, H' c = none) → E' cls d (rep cs H H')) : L2.CX P w outer H s E' u s' := by
  obtain ⟨a, B, H', cls, d, eu, fl, hok, ub, na, os, ag, q⟩ := c
  have here : ∀ c ∈ cs, ∀ o, H c = some (PinO c o) → s.heap.get? c = some o := fun c _ o e => pin_at e0.hok e
  have nf : ∀ c ∈ cs, c ∉ frs outer := fun c hc z => by
    obtain ⟨o, e⟩ := p c hc
    rw [e0.frf c z] at e
    cases e
  have no : ∀ c ∈ cs, H' c = none := fun c hc => by
    obtain ⟨o, e⟩ := p c hc
    exact ub.free c o (here c hc o e) (unp_in hc)
  have out : ∀ {b : Addr}, H b = none → b ∉ cs := fun {b} n z => by
    obtain ⟨o, e⟩ := p b z
    rw [n] at e
    cases e
  have st : ∀ c ∈ cs, ∀ o, H c = some (PinO c o) → B.get? c = some o := fun c hc o e => ub.keep c o (here c hc o e) (unp_in hc) (nf c hc)
  have ac : a ∉ cs := fun z => by
    obtain ⟨o, e⟩ := p a z
    have h1 := st a z o e
    have h2 : B.get? a = none := fl.2.1
    rw [h1] at h2
    cases h2
  refine ⟨a, B, rep cs H H', cls, d, eu, fl, hok_rep p st no hok, ⟨fun b o e n hf => ub.keep b o e (by rw [unp_out (out n)]; exact n) hf, ub.slot, fun b o e n => by rw [rep_out (out n)]; exact ub.free b o e (by rw [unp_out (out n)]; exact n), ub.there, fun b xs e => ?_, fun b o v e => ?_, fun b ps e => ?_⟩,
    by rw [rep_out ac]; exact na, os, ag, hq cls d H' q no⟩
  · have nb := p.no e fun o => pin_tup
    rw [rep_out nb]
    exact ub.tups b xs (by rw [unp_out nb]; exact e)
  · have nb := p.no e fun o => pin_frz
    rw [rep_out nb]
    exact ub.frzs b o v (by rw [unp_out nb]; exact e)
  · have nb := p.no e fun o => pin_tbl
    rw [rep_out nb]
    exact ub.tbls b ps (by rw [unp_out nb]; exact e)
end
section
variable {P : Program} {w : World} {K : PySem.W.Frag} {mg : Str → Option Value} {base : Heap} {N : List Str} {k : Nat}
/-- a closure is called: tb, what its body does -/
theorem clo_run {A : Around} {outer : List Env} {s : Shared} {H : Hp} {d : CloD} {f : Addr} {σ : L2.St} {Q Q' : VK} {E E' : XK} (W : CloS d) (hr : Room (k + 1) A) (e0 : Env0 P w K mg base A outer s H) (hf : LamAt H f d)
    (p : Pins (d.cl.map (·.2)) H) (hcell : ∀ y c, d.cl.lookup y = some c → ∃ v, s.heap.IsCell c v)
    (hval : ∀ (i : Nat) (y : Str) (v : V), N[i]? = some y → σ[i]? = some (some v) → ∃ c u, d.scope.names.lookup y = some .free ∧ d.cl.lookup y = some c ∧ RelV v u ∧ s.heap.IsCell c (some u)) (hlen : σ.length = N.length)
    (hbind : ∀ (pm cv ctv : Value), bindArgs (PySem.W.kla_fn "<lambda>" d.qual d.params d.body d.scope d.cl pm cv ctv) ⟨[], []⟩ = pure [])
    (hbody : ∀ c' : Addr, Room k (A.deeper (cloEnv d s.heap.objs.size f c')) → ∃ tb, PE (cloCx P w K mg base N A outer s (unp (d.cl.map (·.2)) H) E d f c') d.body tb ∧ tb σ (unp (d.cl.map (·.2)) H) Q)
    (hq : ∀ v H', Q v H' → (∀ c ∈ d.cl.map (·.2), H' c = none) → Q' v (rep (d.cl.map (·.2)) H H')) (hx : ∀ cls dd H', E cls dd H' → (∀ c ∈ d.cl.map (·.2), H' c = none) → E' cls dd (rep (d.cl.map (·.2)) H H')) :
    codeAny (model P w) A (.call (.ref f) ⟨[], []⟩) (CR (L2.CX P w) outer P w H s Q' E') s := by
  obtain ⟨pm, ctv, c', of, rc⟩ := lam_at e0.hok hf
  have e1 : Env0 P w K mg base A outer s (unp (d.cl.map (·.2)) H) := env0_unp p e0
  have lim : s.heap.NoLimit := e0.mod.nolimit.keeps fun b o e => (e0.bs b o e).1
  refine PySem.W.kla_callFunE hr.depth of rfl W.co W.gen rfl rc ?_
  rw [hbind]
  refine wpAny_pure (wpAny_newFunctionEnv (fun y hy => (W.own y hy).2) (fun y hy => absurd hy (by simp)) (fun h₁ hns hsb => ⟨lim.fresh _ hsb, ?_⟩) W.kind)
  show codeAny _ _ (.expr d.body (cloEnv d s.heap.objs.size f c')) _ _
  have kp : ∀ b o, s.heap.get? b = some o → h₁.get? b = some o := fun b o e => hsb.extBut b o (Nat.ne_of_lt (Heap.lt_size e)) (Heap.get?_push_of_some _ e)
  have J : Inv (cloCx P w K mg base N A outer s (unp (d.cl.map (·.2)) H) E d f c') [] σ (unp (d.cl.map (·.2)) H) { s with heap := h₁, toks := s.toks + ([] : List (Str × Value)).length } :=
    clo_start W e1 hr.hd (fun y c e => ⟨unp_in (List.mem_map.mpr ⟨(y, c), PySem.mem_of_lookup e, rfl⟩), hcell y c e⟩) hval hlen hns kp
  obtain ⟨tb, hb, ht⟩ := hbody c' (hr.deeper _)
  refine PySem.W.kla_codeExpr (wpAny_mono (hb.run [] _ _ _ Q J ht) (fun u s' hq' => ?_) fun e s' hq' => ?_)
  · obtain ⟨v, H', J', rv, q⟩ := hq'
    exact ce_rep p e0 ⟨v, H', J'.os, J'.bare, J'.base, J'.hok, rv, q⟩ hq
  · exact wpAny_mono hq' (fun _ s'' z => cx_rep p e0 z hx) fun e' s'' z => cx_rep p e0 z hx
end
end Clo
/-! a lambda is made, and known from then on -/
namespace Clo
open PySem PySem.Spec PyProof.Rows L2
section
variable {X : Cx} {pins : List (Addr × Obj)} {σ : L2.St} {H : Hp} {s : Shared}
theorem lamO_ok {P : Program} {w : World} {H : Hp} {h : Heap} {f : Addr} {d : CloD} {pm ctv : Value} {c' : Addr} (e : h.get? f = some (PySem.W.kla_obj "<lambda>" d.qual d.params d.body d.scope d.cl pm c' ctv)) : ObjOk P w H h f (LamO f c' d) :=
  ⟨⟨pm, ctv, e⟩, ⟨_, e⟩, fun h1 h2 ⟨pm, ctv, e⟩ k => ⟨pm, ctv, k _ e⟩⟩
theorem lamO_tbl {f c' : Addr} {d : CloD} (ps : Array Value) : LamO f c' d ≠ .tbl ps := fun z => by
  unfold LamO at z
  cases z
/-- H1 is H with the function f, its code object c' (new, or of the table) -/
inductive LamNew (H H1 : Hp) (P : Addr) (ps : Array Value) (d : CloD) (f c' : Addr) : Prop
  | hit (hc : ∃ pos, codeAmong pos ps.toList = some (.ref c')) (e : H1 = upd H f (LamO f c' d))
  | new (ps' : Array Value) (nc : H c' = none) (nf : f ≠ c') (t : TriplesOk ps'.toList) (ha : ∀ pos cv, codeAmong pos ps'.toList = some cv → codeAmong pos ps.toList = some cv ∨ cv = .ref c') (e : H1 = upd (upd (upd H P (.tbl ps')) c' (LamX.CodeO c' d.qual)) f (LamO f c' d))
theorem lam_made {c P : Addr} {ps : Array Value} {params : Arguments} {body : Expr} {scope : Scope} {pos : Pos} {E : Value → Shared → Prop} {Q : Value → Shared → Prop} (I : Inv X pins σ H s) (TB : LamX.TabB X.base X.mg c P) (hcode : X.env.code = .ref c)
    (hP : H P = some (.tbl ps)) (ht : TriplesOk ps.toList) (ha : ∀ (pos : Pos) (cv : Value), codeAmong pos ps.toList = some cv → ∃ c, cv = .ref c ∧ H c = some (LamX.CodeO c (X.env.qual ++ "<lambda>"))) (hdef : defaultsOf params X.env = ([], [])) (hfree : ∀ y ∈ scope.names, y.2 = .free → ∃ c, X.env.cells.lookup y.1 = some c)
    (h : ∀ (f c' : Addr) (H1 : Hp) (s' : Shared), Inv X pins σ H1 s' → H f = none → LamNew H H1 P ps ⟨X.env.qual ++ "<lambda>", params, body, scope, L2.cloFrom X.env.cells scope.names []⟩ f c' → Q (.ref f) s') :
    wpAny (model X.prog X.w) X.A (eval (.Lambda params body scope pos) X.env) Q E s := by
  refine PySem.W.kla_eval hdef ?_
  have bP : s.heap.BuiltinsAt X.mg P := TB.bm.keeps I.bk
  have hP' : s.heap.get? P = some { cls := .none, data := .fields ps } := I.hok P _ hP
  cases hc : codeAmong pos ps.toList with
  | none =>
    refine PySem.W.kla_makeFunction (mg := X.mg) (c := c) (P := P) (ps := ps) (L2.closure_ok hfree) I.ok.glob (I.mod.glob.keeps I.bk) hcode (TB.code.keeps I.bk) hP' ht hc TB.gP bP fun c' ctv h' tk hx hge hlt hrec htb => ?_
    obtain ⟨c2, oc, vs, t, e2, hoc, hd, hv⟩ := hrec
    cases e2
    have hsz : s.heap.objs.size ≤ h'.objs.size := Nat.le_trans hge (Nat.le_of_lt hlt)
    have nC : H c' = none := I.hok.fresh hge
    have I1 := LamX.inv_table (t' := tk) (more := #[rawInt pos.line, rawInt pos.col, .ref c']) (h' := h') I hP (fun b o hb e => hx b o hb e) htb hge ⟨oc, vs, t, hoc, hd, hv⟩
    have eL : (ps ++ #[rawInt pos.line, rawInt pos.col, .ref c']).toList = ps.toList ++ [rawInt pos.line, rawInt pos.col, .ref c'] := by simp
    refine h h'.objs.size c' _ _ (I1.laid (t' := tk) (a := h'.objs.size) (o := LamO h'.objs.size c' ⟨X.env.qual ++ "<lambda>", params, body, scope, L2.cloFrom X.env.cells scope.names []⟩) (fun b u q => Heap.get?_push_of_some _ q) (Nat.le_refl _)
      (lamO_ok (pm := (X.mg "__name__").getD .none) (ctv := ctv) (c' := c') (Heap.get?_push_size _ rfl))) (I.hok.fresh hsz) (.new _ nC (Nat.ne_of_gt hlt) (by rw [eL]; exact PySem.TriplesOk_snoc _ _ _ _ ht) (fun p' cv hcv => ?_) rfl)
    rw [eL] at hcv
    exact LamX.among_app _ ht hcv
  | some cv =>
    obtain ⟨c', e, hco⟩ := ha pos cv hc
    subst e
    refine PySem.W.kla_makeFunctionHit (mg := X.mg) (c := c) (P := P) (ps := ps) (L2.closure_ok hfree) I.ok.glob (I.mod.glob.keeps I.bk) hcode (TB.code.keeps I.bk) hP' ht hc bP fun ctv h' tk hx hsz => ?_
    exact h h'.objs.size c' _ _ (I.laid (t' := tk) (a := h'.objs.size) (o := LamO h'.objs.size c' ⟨X.env.qual ++ "<lambda>", params, body, scope, L2.cloFrom X.env.cells scope.names []⟩) (fun b u q => Heap.get?_push_of_some _ (hx b u q)) hsz
      (lamO_ok (pm := (X.mg "__name__").getD .none) (ctv := ctv) (c' := c') (Heap.get?_push_size _ rfl))) (I.hok.fresh hsz) (.hit ⟨pos, hc⟩ rfl)
end
end Clo
/-! closures with promises; calls from a frame whose own cells are pinned for the call -/
namespace Clo
open PySem PySem.Spec PyProof.Rows L2
/-- a closure's promise, told of what its cells have -/
structure CloG (P : Program) (w : World) (K : PySem.W.Frag) (mg : Str → Option Value) (base : Heap) (k : Nat) (d : CloD) (sp : Sp) : Prop where
  run : ∀ (A : Around) (outer : List Env) (s : Shared) (H : Hp) (f : Addr) (vs : List V) (Q : VK) (E : XK), Room k A → A.guards = some [] → Env0 P w K mg base A outer s H → LamAt H f d → SC H d vs → sp vs H Q E →
    codeAny (model P w) A (.call (.ref f) ⟨[], []⟩) (CR (L2.CX P w) outer P w H s Q E) s
theorem CloG.mono {P : Program} {w : World} {K : PySem.W.Frag} {mg : Str → Option Value} {base : Heap} {j k : Nat} {d : CloD} {sp : Sp} (c : CloG P w K mg base j d sp) (h : j ≤ k) : CloG P w K mg base k d sp := ⟨fun A o s H f vs Q E hr => c.run A o s H f vs Q E (hr.mono h)⟩
/-- the words of a lambda, as they are looked at -/
def cloSB (d : CloD) : Bool := decide (d.scope.kind = .function) && !d.scope.isCoroutine && !d.scope.isGenerator && d.scope.names.all fun y => !decide (y.2 = .local) && !decide (y.2 = .cell) && (!decide (y.2 = .free) || decide (d.scope.names.lookup y.1 = some .free))
section
variable {P : Program} {w : World} {K : PySem.W.Frag} {mg : Str → Option Value} {base : Heap} {k : Nat}
theorem frees_free {d : CloD} {i : Nat} {y : Str} (hs : cloSB d = true) (h : (frees d)[i]? = some y) : d.scope.names.lookup y = some .free := by
  unfold cloSB at hs
  simp only [Bool.and_eq_true, Bool.or_eq_true, Bool.not_eq_true', decide_eq_true_eq, decide_eq_false_iff_not, List.all_eq_true] at hs
  have hm := List.mem_of_getElem? h
  unfold frees at hm
  obtain ⟨p, hp, e⟩ := List.mem_filterMap.mp hm
  split at e
  · rename_i hf
    cases e
    rcases (hs.2 p hp).2 with z | z
    · exact absurd hf z
    · exact z
  · cases e
theorem cloG_of {d : CloD} {sp : Sp} (W : CloS d) (hs : cloSB d = true) (hbind : ∀ (pm cv ctv : Value), bindArgs (PySem.W.kla_fn "<lambda>" d.qual d.params d.body d.scope d.cl pm cv ctv) ⟨[], []⟩ = pure [])
    (hbody : ∀ (A : Around) (outer : List Env) (s : Shared) (H : Hp) (f c' : Addr) (vs : List V) (Q : VK) (E : XK), Room k (A.deeper (cloEnv d s.heap.objs.size f c')) → A.guards = some [] → Pins (d.cl.map (·.2)) H → SC H d vs → sp vs H Q E →
      ∃ tb, PE (cloCx P w K mg base (frees d) A outer s (unp (d.cl.map (·.2)) H) (fun cls dd H' => (∀ c ∈ d.cl.map (·.2), H' c = none) → E cls dd (rep (d.cl.map (·.2)) H H')) d f c') d.body tb ∧ tb (vs.map some) (unp (d.cl.map (·.2)) H) (fun v H' => (∀ c ∈ d.cl.map (·.2), H' c = none) → Q v (rep (d.cl.map (·.2)) H H'))) :
    CloG P w K mg base (k + 1) d sp := by
  refine ⟨fun A outer s H f vs Q E hr hG e0 hf sc h => ?_⟩
  have pn : Pins (d.cl.map (·.2)) H := fun c hc => by
    obtain ⟨p, hp, rfl⟩ := List.mem_map.mp hc
    obtain ⟨o, w, e, _⟩ := sc.pin p hp
    exact ⟨o, e⟩
  refine clo_run (N := frees d) (σ := vs.map some) (Q := fun v H' => (∀ c ∈ d.cl.map (·.2), H' c = none) → Q v (rep (d.cl.map (·.2)) H H')) (E := fun cls dd H' => (∀ c ∈ d.cl.map (·.2), H' c = none) → E cls dd (rep (d.cl.map (·.2)) H H')) W hr e0 hf pn (fun y c e => ?_) (fun i y v h1 h2 => ?_) (by rw [List.length_map]; exact sc.len) hbind (fun c' hr' => hbody A outer s H f c' vs Q E hr' hG pn sc h) (fun v H' q no => q no) (fun cls dd H' q no => q no)
  · obtain ⟨o, w, e1, e2⟩ := sc.pin (y, c) (PySem.mem_of_lookup e)
    exact ⟨w, o, pin_at e0.hok e1, e2⟩
  · rw [List.getElem?_map] at h2
    obtain ⟨v', h3, e⟩ := Option.map_eq_some_iff.mp h2
    cases e
    obtain ⟨c, o, u, a1, a2, a3, a4⟩ := sc.val i y v h1 h3
    exact ⟨c, u, frees_free hs h1, a1, a4, o, pin_at e0.hok a2, a3⟩
/-- x(), x a closure of which we know the promise -/
theorem pe_cloW {X : Cx} {i : Nat} {a : Str} {W : WX} {p1 p2 : Pos} (tk : Takes X W) (hr : Room k X.A) (hG : X.A.guards = some []) (hN : X.N[i]? = some a) (hv : Vis X.env.scope a) (hd : (a == ("__debug__" : Str)) = false := by decide) (hcd : (a == ("__classdict__" : Str)) = false := by decide) :
    PE X (.Call (.Name a p1) [] [] p2) (fun σ H Q => ∃ f d vs sp, σ[i]? = some (some (.ref f)) ∧ CloG X.prog X.w X.K X.mg X.base k d sp ∧ LamAt H f d ∧ SC H d vs ∧ sp vs H Q (fun cls dd H' => W cls dd σ H')) := by
  refine ⟨fun pins s σ H Q I h => ?_⟩
  obtain ⟨f, d, vs, sp, hs, hC, hf, sc, h⟩ := h
  refine wpAny_Call_Name_kw (thn ((pe_var (pos := p1) (i := i) hN hv hd hcd).run pins s σ H (fun v H1 => v = .ref f ∧ H1 = H) I ⟨.ref f, hs, rfl, rfl⟩) fun u s1 ⟨v, H1, I1, r1, q1⟩ => ?_)
  obtain ⟨ev, eH⟩ := q1
  subst ev
  rw [eH] at I1
  obtain rfl : u = Value.ref f := r1
  obtain ⟨pm, ctv, c', of1, rc⟩ := lam_at I1.hok hf
  refine PySem.W.callWith_F0 ⟨_, _, _, _, of1⟩ ?_
  refine wpAny_call (codeAny_mono (hC.run X.A X.stack s1 H f vs Q _ hr hG I1.env0 hf sc h) fun r s' hq => ?_)
  match r, hq with
  | .error e, hq => exact tk e s' (XE.of_call I1 (fun cls d H' h => h) hq)
  | .ok (.ret u), hq => exact I1.after hq
end
/-! ### the frame's own cells are pinned for a call -/
def pinH (h : Heap) (cs : List Addr) (H : Hp) : Hp := fun b => if b ∈ cs then (h.get? b).map (PinO b) else H b
section
variable {P : Program} {w : World} {K : PySem.W.Frag} {mg : Str → Option Value} {base : Heap} {A : Around} {outer : List Env} {s s' : Shared} {H : Hp} {cs : List Addr}
theorem pinH_in {h : Heap} {b : Addr} {o : Obj} (hb : b ∈ cs) (e : h.get? b = some o) : pinH h cs H b = some (PinO b o) := by
  unfold pinH
  rw [if_pos hb, e]
  rfl
theorem pinH_out {h : Heap} {b : Addr} (hb : b ∉ cs) : pinH h cs H b = H b := if_neg hb
theorem env0_pin (e : Env0 P w K mg base A outer s H) (hc : ∀ c ∈ cs, (∃ o, s.heap.get? c = some o) ∧ H c = none ∧ base.get? c = none ∧ c ∉ frs outer) : Env0 P w K mg base A outer s (pinH s.heap cs H) := by
  refine ⟨e.frames, e.mod, fun b o q => ⟨(e.bs b o q).1, ?_⟩, e.bsz, e.funs, fun b q => ?_, fun b o q => ?_, e.bare⟩
  · rw [pinH_out fun z => by rw [(hc b z).2.2.1] at q; cases q]
    exact (e.bs b o q).2
  · rw [pinH_out fun z => (hc b z).2.2.2 q]
    exact e.frf b q
  · by_cases z : b ∈ cs
    · obtain ⟨o', eo⟩ := (hc b z).1
      rw [pinH_in z eo] at q
      cases q
      exact pin_ok eo
    · rw [pinH_out z] at q
      refine (e.hok b o q).stay (fun _ _ _ z => z) (fun c q' => ?_) fun c xs q' => ?_
      · rw [pinH_out fun z' => by rw [(hc c z').2.1] at q'; cases q']; exact q'
      · rw [pinH_out fun z' => by rw [(hc c z').2.1] at q'; cases q']; exact q'
theorem hok_unp' {H' : Hp} {h : Heap} (p : ∀ c ∈ cs, ∃ o, H' c = some (PinO c o)) (k : HOk P w H' h) : HOk P w (unp cs H') h := hok_unp p k
theorem ce_unpin {Q Q' : VK} {u : Value} (e0 : Env0 P w K mg base A outer s H) (hc : ∀ c ∈ cs, (∃ o, s.heap.get? c = some o) ∧ H c = none ∧ base.get? c = none ∧ c ∉ frs outer) (c : CE outer P w (pinH s.heap cs H) s Q u s') (hq : ∀ v H', Q v H' → (∀ c ∈ cs, H' c = pinH s.heap cs H c) ∧ Q' v (unp cs H')) : CE outer P w H s Q' u s' := by
  obtain ⟨v, H', os, bare, un, hok, rv, q⟩ := c
  obtain ⟨st, q⟩ := hq v H' q
  have pn : Pins cs H' := fun c z => by
    obtain ⟨o, eo⟩ := (hc c z).1
    exact ⟨o, (st c z).trans (pinH_in z eo)⟩
  have out : ∀ {b : Addr} {x : HO}, H b = some x → b ∉ cs := fun {b x} e z => by rw [(hc b z).2.1] at e; cases e
  refine ⟨v, unp cs H', os, bare, ⟨fun b o e n hf hx => ?_, fun b o e n hf hx => ?_, fun b o e n hx => ?_, un.there, fun b xs e => ?_, fun b o v e => ?_, fun b ps e => ?_⟩, hok_unp pn hok, rv, q⟩
  · by_cases z : b ∈ cs
    · exact pin_at hok ((st b z).trans (pinH_in z e))
    · exact un.keep b o e (by rw [pinH_out z]; exact n) hf hx
  · exact un.slot b o e (by rw [pinH_out fun z => (hc b z).2.2.2 hf]; exact n) hf hx
  · by_cases z : b ∈ cs
    · exact unp_in z
    · rw [unp_out z]
      exact un.free b o e (by rw [pinH_out z]; exact n) hx
  · rw [unp_out (out e)]
    exact un.tups b xs (by rw [pinH_out (out e)]; exact e)
  · rw [unp_out (out e)]
    exact un.frzs b o v (by rw [pinH_out (out e)]; exact e)
  · rw [unp_out (out e)]
    exact un.tbls b ps (by rw [pinH_out (out e)]; exact e)
theorem cx_unpin {E E' : XK} {u : Value} (e0 : Env0 P w K mg base A outer s H) (hc : ∀ c ∈ cs, (∃ o, s.heap.get? c = some o) ∧ H c = none ∧ base.get? c = none ∧ c ∉ frs outer) (c : L2.CX P w outer (pinH s.heap cs H) s E u s') (hq : ∀ cls d H', E cls d H' → (∀ c ∈ cs, H' c = pinH s.heap cs H c) ∧ E' cls d (unp cs H')) : L2.CX P w outer H s E' u s' := by
  obtain ⟨a, B, H', cls, d, eu, fl, hok, ub, na, os, ag, q⟩ := c
  obtain ⟨st, q⟩ := hq cls d H' q
  have pn : Pins cs H' := fun c z => by
    obtain ⟨o, eo⟩ := (hc c z).1
    exact ⟨o, (st c z).trans (pinH_in z eo)⟩
  have out : ∀ {b : Addr} {x : HO}, H b = some x → b ∉ cs := fun {b x} e z => by rw [(hc b z).2.1] at e; cases e
  refine ⟨a, B, unp cs H', cls, d, eu, fl, hok_unp pn hok, ⟨fun b o e n hf => ?_, ub.slot, fun b o e n => ?_, ub.there, fun b xs e => ?_, fun b o v e => ?_, fun b ps e => ?_⟩, ?_, os, ag, q⟩
  · by_cases z : b ∈ cs
    · exact pin_at hok ((st b z).trans (pinH_in z e))
    · exact ub.keep b o e (by rw [pinH_out z]; exact n) hf
  · by_cases z : b ∈ cs
    · exact unp_in z
    · rw [unp_out z]
      exact ub.free b o e (by rw [pinH_out z]; exact n)
  · rw [unp_out (out e)]
    exact ub.tups b xs (by rw [pinH_out (out e)]; exact e)
  · rw [unp_out (out e)]
    exact ub.frzs b o v (by rw [pinH_out (out e)]; exact e)
  · rw [unp_out (out e)]
    exact ub.tbls b ps (by rw [pinH_out (out e)]; exact e)
  · by_cases z : a ∈ cs
    · exact unp_in z
    · rw [unp_out z]; exact na
end
/-- the addresses of some cells -/
def csOf (cells : List (Str × Addr)) (ns : List Str) : List Addr := ns.filterMap fun y => cells.lookup y
/-- Hp is H with the cells of ns pinned, which have what σ tells -/
structure PinRel (cells : List (Str × Addr)) (ns N : List Str) (σ : L2.St) (H Hp : Hp) : Prop where
  out : ∀ b, b ∉ csOf cells ns → Hp b = H b
  no : ∀ c ∈ csOf cells ns, H c = none
  pin : ∀ c ∈ csOf cells ns, ∃ o w, Hp c = some (PinO c o) ∧ o.data = .cell w
  val : ∀ (i : Nat) (y : Str) (v : V), y ∈ ns → N[i]? = some y → σ[i]? = some (some v) → ∃ c o u, cells.lookup y = some c ∧ Hp c = some (PinO c o) ∧ o.data = .cell (some u) ∧ RelV v u
section
variable {X : Cx} {k : Nat} {f : Addr} {fd : FuncData} {ps ns : List Str} {sp : Sp} {E : XK} {x : Str} {p pos : Pos} {e : Expr} {es : List Expr} {t : TA}
theorem Inv.pinned {pins : List (Addr × Obj)} {σ : L2.St} {H : Hp} {s : Shared} (I : Inv X pins σ H s) (hns : ∀ y ∈ ns, X.env.kindOf y = some .cell) (hfn : X.fn = fun _ => true) :
    (∀ c ∈ csOf X.env.cells ns, (∃ o, s.heap.get? c = some o) ∧ H c = none ∧ X.base.get? c = none ∧ c ∉ frs X.stack) ∧ PinRel X.env.cells ns X.N σ H (pinH s.heap (csOf X.env.cells ns) H) := by
  have mem : ∀ {c}, c ∈ csOf X.env.cells ns → ∃ y ∈ ns, X.env.cells.lookup y = some c := fun {c} h => List.mem_filterMap.mp h
  have some_ : ∀ {y c}, X.env.cells.lookup y = some c → y ∈ ns → c ∈ csOf X.env.cells ns := fun {y c} e h => List.mem_filterMap.mpr ⟨y, h, e⟩
  refine ⟨fun c hc => ?_, fun b hb => pinH_out hb, fun c hc => ?_, fun c hc => ?_, fun i y v hy h1 h2 => ?_⟩
  · obtain ⟨y, hy, e⟩ := mem hc
    obtain ⟨v, o, ho, hd⟩ := I.cell y c e
    have hge := I.ok.cab y c (by rw [hfn]) e
    refine ⟨⟨o, ho⟩, I.freeC y c e, Heap.get?_none_of_le (Nat.le_trans I.ok.bsz hge), fun z => ?_⟩
    rcases List.mem_cons.mp (I.stkSub c z) with z | z
    · exact I.cne y c e z
    · obtain ⟨_, o', ho', _⟩ := I.ok.funs.mem z
      exact absurd (Nat.lt_of_lt_of_le (Heap.lt_size ho') hge) (Nat.lt_irrefl _)
  · obtain ⟨y, hy, e⟩ := mem hc
    exact I.freeC y c e
  · obtain ⟨y, hy, e⟩ := mem hc
    obtain ⟨v, o, ho, hd⟩ := I.cell y c e
    exact ⟨o, v, pinH_in hc ho, hd⟩
  · obtain ⟨m, hn, hl⟩ := I.loc
    have hk := hns y hy
    obtain ⟨u, r, q⟩ := hl i y v h1 h2 (.inr (.inl hk))
    rcases q with ⟨q, _⟩ | ⟨_, c, e, o, ho, hd⟩
    · rw [hk] at q; cases q
    · exact ⟨c, o, u, e, pinH_in (some_ e hy) ho, hd, r⟩
/-- f(e, ..), the frame's cells pinned for the call -/
def tCallPin (cells : List (Str × Addr)) (ns N : List Str) (sp : Sp) (E : XK) (t : TA) : TE := fun σ H Q => t σ H fun vs H1 => ∀ Hp, PinRel cells ns N σ H1 Hp → sp vs Hp (fun v H' => (∀ c ∈ csOf cells ns, H' c = Hp c) ∧ Q v (unp (csOf cells ns) H')) (fun cls d H' => (∀ c ∈ csOf cells ns, H' c = Hp c) ∧ E cls d (unp (csOf cells ns) H'))
theorem pe_callPin (F : Gd.FnG X.prog X.w X.K X.mg X.base (L2.CX X.prog X.w) k f fd ps sp) (hr : Room k X.A) (hG : X.A.guards = some []) (hg : Gl X x) (hm : X.mg x = some (.ref f)) (hk : PySem.W.keepIn X.K (.ref f) = true) (hb : Binds X.K fd ps []) (hx : Passes (L2.CX X.prog X.w) X E)
    (hns : ∀ y ∈ ns, X.env.kindOf y = some .cell) (hfn : X.fn = fun _ => true)
    (ha : PA X (e :: es) t) (hdb : (x == ("__debug__" : Str)) = false := by decide) (he : starEach (e :: es) X.env = (false, eval e X.env) :: starEach es X.env := by rfl) (hpl : (backTo pos (starEach es X.env)).any (·.1) = false := by rfl) :
    PE X (.Call (.Name x p) (e :: es) [] pos) (tCallPin X.env.cells ns X.N sp E t) := by
  refine ⟨fun pins s σ H Q I h => wpAny_Call_Name_kw (ld_glob I hg hm ?_ hdb)⟩
  refine PySem.W.callWith_K (h₀ := X.base) I.ok.mod.kin hk (thn (ha.run pos pins s σ H _ (I.tok _) h) fun us s1 ⟨vs, H1, I1, r, q⟩ => ⟨I1.kIn, ?_⟩) he hpl
  obtain ⟨hc, pr⟩ := Inv.pinned I1 hns hfn
  have q := q _ pr
  have hl : us.length = ps.length := r.length.symm.trans (F.len _ _ _ _ q)
  have bd := hb s1 us I1.kIn (by simpa using hl)
  rw [List.append_nil] at bd
  refine wpAny_call (codeAny_mono (F.run X.A X.stack s1 _ ⟨us, []⟩ us vs _ _ hr hG (env0_pin I1.env0 hc) bd r q) fun r s' hq => ?_)
  match r, hq with
  | .error e, hq => exact hx pins σ H1 s1 e s' I1 (cx_unpin I1.env0 hc hq fun _ _ _ h => h)
  | .ok (.ret u), hq => exact I1.after (ce_unpin I1.env0 hc hq fun _ _ h => h)
end
end Clo
/-! try: body, several `except C as n: return e` -/
namespace TryR
open PySem PySem.Spec PyProof.Rows L2
/-- a clause: its class, what its value reads -/
structure Cl where
  c : Value
  ts : Addr → Value → Option Addr → TE
def aim (K : PySem.W.Frag) (i : Nat) (out : WX) (rt : VK) : List Cl → WX
  | [] => out
  | k :: r => fun cls d σ H => ∃ b, PySem.W.exmOne K cls k.c = some b ∧ (b = true → ∀ a, H a = none → k.ts a cls d (σ.set i (some (.ref a))) H rt) ∧ (b = false → aim K i out rt r cls d σ H)
inductive Cls (X : Cx) (n : Str) : List ExceptHandler → List Cl → Prop
  | none : Cls X n [] []
  | more {x : Str} {e : Expr} {np rp pos : Pos} {k : Cl} {hds : List ExceptHandler} {l : List Cl} (hc : Names X x k.c)
      (hs : ∀ (a : Addr) (oe : Obj) (cls : Value) (d : Option Addr) (pn : List (Addr × Obj)), Zc cls d oe → (∃ vs, oe.data = .fields vs) → PE (X.suite a ((a, oe) :: pn)) e (k.ts a cls d)) (r : Cls X n hds l) :
      Cls X n (.ExceptHandler (some (.Name x np)) (some n) [.Return (some e) rp] pos :: hds) (k :: l)
section
variable {X : Cx} {i : Nat} {n : Str} {pins : List (Addr × Obj)} {σ : L2.St} {H : Hp} {D : Ends} {Wout : WX}
/-- an exception a that has come down: the frame as it was, the ground B -/
structure Down (X : Cx) (pins : List (Addr × Obj)) (σ : L2.St) (H : Hp) (a : Addr) (B : Heap) (sI s : Shared) (cls : Value) (d : Option Addr) (h : Heap) : Prop where
  inv : Inv X pins σ H sI
  nb : ∀ b o, sI.heap.get? b = some o → b ∉ frs X.stack → B.get? b = some o
  up : sI.heap.UpToSlots h
  na : H a = none
  os : s.os = sI.os
  ag : AllBare s.gens
  fl : HandSPX.FlyingZ B (X.env :: X.outer) a (Zc cls d) h
theorem Down.now {a : Addr} {B : Heap} {sI s : Shared} {cls : Value} {d : Option Addr} {h : Heap} (q : Down X pins σ H a B sI s cls d h) : Inv X pins σ H { s with heap := h } := q.inv.landed q.nb q.fl.1 q.up q.os q.ag
/-- it stands in the heap, no frame -/
theorem Down.at_ {a : Addr} {B : Heap} {sI s : Shared} {cls : Value} {d : Option Addr} {h : Heap} (hf : X.env.frame = some X.env.locals) (q : Down X pins σ H a B sI s cls d h) : ∃ oe vs, h.get? a = some oe ∧ Zc cls d oe ∧ oe.data = .fields vs ∧ a ≠ X.env.locals ∧ a ∉ X.fs := by
  obtain ⟨oe, vs, h1, h2, h3⟩ := q.fl.there
  have out : a ∉ frs (X.env :: X.outer) := fun m => by
    obtain ⟨_, o, h4, no⟩ := q.fl.2.2.1.mem m
    rw [h1] at h4
    cases h4
    exact no _ h3
  refine ⟨oe, vs, h1, h2, h3, fun z => out (List.mem_filterMap.mpr ⟨X.env, List.mem_cons_self, by rw [z]; exact hf⟩), fun m => ?_⟩
  obtain ⟨e, m1, m2⟩ := List.mem_filterMap.mp m
  exact out (List.mem_filterMap.mpr ⟨e, .tail _ m1, m2⟩)
theorem clauses (hN : X.N.Nodup) (hi : X.N[i]? = some n) (hl : X.env.kindOf n = some .local) (hs : X.stack = X.env :: X.outer) (hf : X.env.frame = some X.env.locals) (tk : Takes X Wout) {a : Addr} {B : Heap} {sI s : Shared} {cls : Value} {d : Option Addr} {h : Heap} (q : Down X pins σ H a B sI s cls d h) :
    ∀ {hds : List ExceptHandler} {l : List Cl}, Cls X n hds l → aim X.K i Wout D.rt l cls d σ H → wpAny (model X.prog X.w) X.A (handleBy (.ref a) X.env hds) (SP X pins D) X.xe { s with heap := h } := by
  intro hds l hk
  induction hk with
  | none =>
    intro w
    apply wpAny_handleBy_nil
    have fl := q.fl
    obtain ⟨_, _, _, oe, vs, T, oT, ts, g1, g2, g3, g4, _⟩ := id q.fl
    rw [PySem.passOn]
    apply wpAny_bind
    apply wpAny_field g1 g3 g4
    rw [if_neg (by simp)]
    have go : wpAny (model X.prog X.w) X.A (setFlight (.ref a) X.env.frame) (fun _ s' => wpAny (model X.prog X.w) X.A (throw (.ref a) : Sem Flow) (SP X pins D) X.xe s') X.xe { s with heap := h } := by
      rw [hf]
      apply HandSPX.setFlight_upZ fl
      intro h' held up'
      apply wpAny_throw
      exact tk _ _ ⟨a, B, sI, pins, σ, H, cls, d, rfl, q.inv, q.nb, q.up.trans up', .inr (.inr (by rw [hs]; exact held)), q.na, q.os, q.ag, w⟩
    first
      | exact wpAny_bind go
      | exact wpAny_bind (wpAny_pure (wpAny_bind go))
  | @more x e np rp pos k hds2 l2 hc he r ih =>
    rintro ⟨b, w1, w2, w3⟩
    obtain ⟨oe, vs, h1, h2, h3, nL, nF⟩ := q.at_ hf
    have now := q.now
    have S := now.suite h1 h3 q.na nL nF
    refine wpAny_handleBy_cons (codeAny_handlers_test ?_) (by intro z; cases z)
    have ty : PySem.W.Looks (model X.prog X.w) h (typeOf (.ref a)) cls := fun A Q E s' k' hq => by
      apply wpAny_typeOf_ref (k' _ _ h1)
      rw [h2.1]
      exact hq
    have named : ∀ {Q E : Value → Shared → Prop}, Q k.c { s with heap := h } → wpAny (model X.prog X.w) (X.A.mark (some (.ref a))) (eval (.Name x np) X.env) Q E { s with heap := h } := by
      intro Q E hq
      rcases hc with ⟨c1, c2, c3⟩
      rcases c3 with c3 | ⟨c3, c4, c5⟩
      · exact ld_glob S c1 c3 hq c2
      · exact ld_blt S c1 c3 c4 hq c5 c2
    apply named
    apply (PySem.W.exm_one (M := model X.prog X.w) now.kIn ty w1).here
    cases b with
    | false => exact ih (w3 rfl)
    | true =>
      apply codeAny_handlers_suite_as
      apply HandSPX.lands_againZ q.fl
      intro h' fl' up'
      have q' : Down X pins σ H a B sI s cls d h' := ⟨q.inv, q.nb, q.up.trans up', q.na, q.os, q.ag, fl'⟩
      obtain ⟨oe', vs', k1, k2, k3, _, _⟩ := q'.at_ hf
      have S' := q'.now.suite k1 k3 q.na nL nF
      refine store_ok (X := X.suite a ((a, oe') :: (X.pn ++ pins))) (v := .ref a) S' hN hi (Or.inl hl) rfl (fun s5 S5 => ?_) (Or.inr hl)
      have body := (pss_one (ps_ret (pos := rp) (he a oe' cls d (X.pn ++ pins) k2 ⟨_, k3⟩))).run [] s5 _ H { nx := fun _ _ => False, rt := D.rt, bk := fun _ _ => False, ct := fun _ _ => False } S5 (w2 rfl a q.na)
      refine wpAny_mono body (fun f s6 out => ?_) (fun _ _ z => z.elim)
      match f, out with
      | .ret u, ⟨v6, σ6, H6, S6, r6, q6⟩ => exact gone_ok (Inv.unsuite S6 now.ok) hN hi hl fun s7 J7 => ⟨v6, _, H6, J7, r6, q6⟩
      | .next, ⟨_, _, _, z⟩ => exact z.elim
      | .brk, ⟨_, _, _, z⟩ => exact z.elim
      | .cont, ⟨_, _, _, z⟩ => exact z.elim
theorem ps_tryR {body : List Stmt} {h₀ : ExceptHandler} {hds : List ExceptHandler} {l : List Cl} {pos : Pos} {tb : WX → TS} (hN : X.N.Nodup) (hi : X.N[i]? = some n) (hl : X.env.kindOf n = some .local) (hs : X.stack = X.env :: X.outer) (hf : X.env.frame = some X.env.locals) (tk : Takes X Wout)
    (hb : ∀ (W : WX) (pn : List (Addr × Obj)) (xe : Value → Shared → Prop), Takes (X.tr pn xe) W → PSs (X.tr pn xe) body (tb W)) (hh : Cls X n (h₀ :: hds) l) : PS X (.Try body (h₀ :: hds) [] [] pos) (fun D σ H => tb (aim X.K i Wout D.rt l) D σ H) := by
  constructor
  intro pins s σ H D I h
  have ok := I.ok
  apply wpAny_Try_except
  apply wpAny_mono ((hb (aim X.K i Wout D.rt l) (X.pn ++ pins) (fun e s₁ => wpAny (model X.prog X.w) X.A (noteFrame e X.env) (fun _ s₂ => wpAny (model X.prog X.w) X.A (setFlight e none) (fun _ s₃ => wpAny (model X.prog X.w) X.A (handleBy e X.env (h₀ :: hds)) (SP X pins D) X.xe s₃) X.xe s₂) X.xe s₁) ?_).run [] s σ H D (I.toTry _) h)
  · intro f s1 out
    match f, out with
    | .next, ⟨σ', H', J, q⟩ => exact wpAny_execs_nil ⟨σ', H', J.ofTry ok, q⟩
    | .brk, ⟨σ', H', J, q⟩ => exact ⟨σ', H', J.ofTry ok, q⟩
    | .cont, ⟨σ', H', J, q⟩ => exact ⟨σ', H', J.ofTry ok, q⟩
    | .ret u, ⟨v, σ', H', J, r, q⟩ => exact ⟨v, σ', H', J.ofTry ok, r, q⟩
  · exact fun _ _ z => z
  · rintro u s' ⟨a, B, sI, pins', σ', H', cls, d, rfl, J, nb, up, sky, na, os, ag, w⟩
    have fr : X.A.frames = some (X.env :: X.outer) := ok.frames.trans (congrArg some hs)
    rw [show (X.tr (X.pn ++ pins) _).stack = X.stack from rfl, hs] at sky
    show wpAny (model X.prog X.w) X.A (noteFrame (.ref a) X.env) _ _ _
    apply Sky.land Zc.steady fr hf sky
    intro h3 fl up3
    exact clauses hN hi hl hs hf tk ⟨J.ofTry ok, nb, up.trans up3, na, os, ag, fl⟩ hh w
end
end TryR
/-! closures at the level of data -/
namespace DL
open PySem PySem.Spec PyProof.Rows L2 Clo
/-! ### no function in it -/
mutual
@[simp] def flat : D → Bool
  | .clo _ => false
  | .sc _ _ => false
  | .tup ds => flats ds
  | .lst ds => flats ds
  | .dct _ ds => flats ds
  | .obj _ _ ds => flats ds
  | _ => true
@[simp] def flats : List D → Bool
  | [] => true
  | d :: ds => flat d && flats ds
end
/-- what stands at cs are pins -/
def PinAll (cs : List Addr) (G : Hp) : Prop := ∀ c ∈ cs, ∀ u, G c = some u → ∃ o, u = PinO c o
theorem PinAll.out {cs : List Addr} {G : Hp} {b : Addr} {u : HO} (p : PinAll cs G) (e : G b = some u) (n : ∀ o, u ≠ PinO b o) : b ∉ cs := fun z => by
  obtain ⟨o, e'⟩ := p b z u e
  exact n o e'
mutual
theorem Vd.unp {cs : List Addr} {G : Hp} (p : PinAll cs G) : ∀ {d : D} {v : V}, flat d = true → Vd G v d → Vd (unp cs G) v d
  | _, _, _, .non => .non
  | _, _, _, .bl b => .bl b
  | _, _, _, .int i => .int i
  | _, _, _, .str x => .str x
  | _, _, _, .ty n => .ty n
  | _, _, _, .cls C => .cls C
  | _, _, h, .lst e t => .lst ((unp_out (p.out e fun o z => nomatch z)).trans e) (Vds.unp p h t)
  | _, _, h, .tup e t => .tup ((unp_out (p.out e fun o z => nomatch z)).trans e) (Vds.unp p h t)
  | _, _, h, .dct e l t => .dct ((unp_out (p.out e fun o z => nomatch z)).trans e) l (Vds.unp p h t)
  | _, _, h, .obj e l t => .obj ((unp_out (p.out e fun o z => nomatch z)).trans e) l (Vds.unp p h t)
theorem Vds.unp {cs : List Addr} {G : Hp} (p : PinAll cs G) : ∀ {ds : List D} {vs : List V}, flats ds = true → Vds G vs ds → Vds (Clo.unp cs G) vs ds
  | _, _, _, .nil => .nil
  | _, _, h, .cons a t => by
    have h : (flat _ && flats _) = true := h
    rw [Bool.and_eq_true] at h
    exact .cons (Vd.unp p h.1 a) (Vds.unp p h.2 t)
end
/-! ### the promise of a closure -/
def spC (Ψ : DFn) : Sp := fun vs H Q E => ∃ (G : Hp) (env : List D) (c : Int) (R : D → Int → Prop) (RX : DX → Int → Prop), Ex G H ∧ Vds G vs env ∧ flats env = true ∧ Ψ env c R RX ∧
  (∀ d c' v G' H', R d c' → FrOk ⟨none, G, H, []⟩ c' G' H' → Vd G' v d → Q v H') ∧ XS ⟨none, G, H, []⟩ E RX
def CloD (P : Program) (w : World) (K : PySem.W.Frag) (mg : Str → Option Value) (base : Heap) (k : Nat) (d : Clo.CloD) (Ψ : DFn) : Prop := CloG P w K mg base k d (spC Ψ)
theorem CloD.mono {P : Program} {w : World} {K : PySem.W.Frag} {mg : Str → Option Value} {base : Heap} {j k : Nat} {d : Clo.CloD} {Ψ : DFn} (c : CloD P w K mg base j d Ψ) (h : j ≤ k) : CloD P w K mg base k d Ψ := CloG.mono c h
theorem ex_unp {cs : List Addr} {G H : Hp} (e : Ex G H) : Ex (unp cs G) (unp cs H) := fun b o h => by
  obtain ⟨h1, h2⟩ := unp_of h
  rw [unp_out h1]
  exact e b o h2
theorem fr_nil {G H : Hp} (b : Addr) : Fr0 ⟨none, G, H, []⟩ b := ⟨(fun _ _ z => nomatch z), (fun z => nomatch z)⟩
theorem frOk_rep {cs : List Addr} {G H G' H' : Hp} {c : Int} (e : Ex G H) (f : FrOk ⟨none, unp cs G, unp cs H, []⟩ c G' H') (no : ∀ c ∈ cs, H' c = none) : FrOk ⟨none, G, H, []⟩ c (rep cs G G') (rep cs H H') := by
  refine ⟨fun b o h => ?_, fun b o h => ?_, fun b hb hn => ?_, (fun p L z => nomatch z), ⟨(fun p hp => nomatch hp), (fun q hq => nomatch hq)⟩⟩
  · by_cases z : b ∈ cs
    · rw [rep_in z]; exact h
    · rw [rep_out z]; exact f.g b o ((unp_out z).trans h)
  · by_cases z : b ∈ cs
    · rw [rep_in z] at h ⊢; exact e b o h
    · rw [rep_out z] at h ⊢; exact f.ex b o h
  · by_cases z : b ∈ cs
    · exact ⟨rep_in z, rep_in z⟩
    · have hb : H b ≠ none := hb
      obtain ⟨a1, a2⟩ := f.fr b (by show unp cs H b ≠ none; rw [unp_out z]; exact hb) (fr_nil b)
      rw [rep_out z, rep_out z]
      exact ⟨a1.trans (unp_out z), a2.trans (unp_out z)⟩
theorem ex_rep {cs : List Addr} {G G' H' : Hp} (e : Ex G' H') (no : ∀ c ∈ cs, H' c = none) : Ex G' (rep cs G G') := fun b o h => by
  by_cases z : b ∈ cs
  · have := e b o h
    rw [no b z] at this
    cases this
  · rw [rep_out z]; exact h
section
variable {P : Program} {w : World} {K : PySem.W.Frag} {mg : Str → Option Value} {base : Heap} {k : Nat}
theorem clo_passes {N : List Str} {A : Around} {outer : List Env} {s : Shared} {H : Hp} {E : XK} {d : Clo.CloD} {f c' : Addr} : Passes (L2.CX P w) (cloCx P w K mg base N A outer s H E d f c') E := passes_call (takes_of rfl rfl rfl rfl) fun _ _ _ _ z => z
abbrev cloF (P : Program) (w : World) (K : PySem.W.Frag) (mg : Str → Option Value) (base : Heap) (k : Nat) (N : List Str) (A : Around) (outer : List Env) (s : Shared) (H : Hp) (E : XK) (d : Clo.CloD) (f c' : Addr) (hr : Room k (A.deeper (cloEnv d s.heap.objs.size f c'))) (hG : A.guards = some []) : Fam P w K mg base k :=
  Fam.one (cloCx P w K mg base N A outer s H E d f c') E ⟨rfl, rfl, rfl, rfl, rfl⟩ hr hG rfl clo_passes
theorem rel_env {M : Cm} {env : List D} {vs : List V} {c : Int} (e : Ex M.G0 M.H0) (hv : Vds M.G0 vs env) (hp : M.pen = none) (ht : M.tabs = []) : Rel M ⟨env.map .d, c⟩ (vs.map some) M.G0 M.H0 := by
  have al : Al M M.G0 M.H0 (env.map .d) (vs.map some) := al_d hv
  exact ⟨e, fun _ _ _ => ⟨rfl, rfl⟩, (fun p L z => by rw [hp] at z; cases z), ⟨(fun p z => by rw [ht] at z; cases z), (fun q z => by rw [ht] at z; cases z)⟩, al.len, fun i x ov h1 h2 => (al.get i x ov h1 h2).1, fun i j ds es a h1 h2 h3 h4 => absurd rfl ((al.get i _ _ h1 h3).2 ds)⟩
theorem cloD_of {d : Clo.CloD} {Ψ : DFn} (W : CloS d) (hs : cloSB d = true) (hbind : ∀ (pm cv ctv : Value), bindArgs (PySem.W.kla_fn "<lambda>" d.qual d.params d.body d.scope d.cl pm cv ctv) ⟨[], []⟩ = pure [])
    (hb : ∀ (A : Around) (outer : List Env) (s : Shared) (H : Hp) (f c' : Addr) (E : XK) (hr : Room k (A.deeper (cloEnv d s.heap.objs.size f c'))) (hG : A.guards = some []) (M : Cm) (RX : DX → Int → Prop), Nice M → XS M E RX →
      ∃ φ, ED M (cloF P w K mg base k (frees d) A outer s H E d f c' hr hG) d.body φ ∧ ∀ env c R, Ψ env c R RX → φ ⟨env.map .d, c⟩ fun d s => R d s.c) : CloD P w K mg base (k + 1) d Ψ := by
  refine cloG_of W hs hbind fun A outer s H f c' vs Q E hr hG pn sc h => ?_
  obtain ⟨G, env, c, R, RX, e, hv, hfl, hΨ, hq, hx⟩ := h
  have pg : PinAll (d.cl.map (·.2)) G := fun c hc u e' => by
    obtain ⟨o, e2⟩ := pn c hc
    rw [e c u e'] at e2
    exact ⟨o, Option.some.inj e2⟩
  let M : Cm := ⟨none, unp (d.cl.map (·.2)) G, unp (d.cl.map (·.2)) H, []⟩
  have ni : Nice M := ⟨ex_unp e, (fun p L z => nomatch z), (fun q z => nomatch z)⟩
  obtain ⟨φ, ⟨t, p, a⟩, pure_⟩ := hb A outer s (unp (d.cl.map (·.2)) H) f c' (fun cls dd H' => (∀ c ∈ d.cl.map (·.2), H' c = none) → E cls dd (rep (d.cl.map (·.2)) H H')) hr hG M RX ni (by
    intro x c cls dd G' H' hR fo ⟨x1, dx, us, x2, x3, x4, x5⟩ no
    have ex' := fo.ex
    exact hx x c cls dd _ _ hR (frOk_rep e fo no) ⟨x1, dx, us, x2, (rep_out fun z => by rw [no dx z] at x3; cases x3).trans x3, x4, Vds.mono (ex_rep ex' no) x5⟩)
  refine ⟨t, p (), a ⟨env.map .d, c⟩ (vs.map some) M.G0 M.H0 _ _ (rel_env ni.ex (Vds.unp pg hfl hv) rfl rfl) (pure_ env c R hΨ) fun d' s' v G' H' hR r g hv' no => ?_⟩
  have fo := r.frOk ni
  exact hq d' s'.c v _ _ hR (frOk_rep e fo no) (Vd.mono (ex_rep fo.ex no) hv')
end
/-! ### lambda: .. -/
section
variable {P : Program} {w : World} {K : PySem.W.Frag} {mg : Str → Option Value} {base : Heap} {k : Nat} {M : Cm} {F : Fam P w K mg base k}
theorem Rel.lam {s : S} {σ : L2.St} {G H H1 : Hp} {Pt f c' : Addr} {ps : Array Value} {d : Clo.CloD} (R : Rel M s σ G H) (hm : (Pt, d.qual) ∈ M.tabs) (hu : ∀ p ∈ M.tabs, p.1 = Pt → p.2 = d.qual) (hP : H Pt = some (.tbl ps)) (ht : TriplesOk ps.toList)
    (ha : ∀ (pos : Pos) (cv : Value), codeAmong pos ps.toList = some cv → ∃ c, cv = .ref c ∧ G c = some (LamX.CodeO c d.qual)) (nf : H f = none) (n : LamNew H H1 Pt ps d f c') :
    ∃ G1, Rel M s σ G1 H1 ∧ Go M σ s G H s G1 H1 ∧ LamAt G1 f d := by
  cases n with
  | hit hc e =>
    subst e
    obtain ⟨pos, hc⟩ := hc
    obtain ⟨c, e1, e2⟩ := ha pos _ hc
    cases e1
    have gf := ex_none R.ex nf
    exact ⟨upd G f (LamO f c' d), R.new nf, .new R nf, c', upd_at, (upd_ne fun z => by rw [z, gf] at e2; cases e2).trans e2⟩
  | new ps' nc nf' t ha' e =>
    subst e
    have mt : Pt ∈ M.tabs.map (·.1) := List.mem_map.mpr ⟨_, hm, rfl⟩
    have gP : G Pt = none := R.tab.2 Pt mt
    have Pc : Pt ≠ c' := fun z => by rw [z, nc] at hP; cases hP
    have Pf : Pt ≠ f := fun z => by rw [z, nf] at hP; cases hP
    -- the table
    have gc := ex_none R.ex nc
    have gf := ex_none R.ex nf
    have R1 : Rel M s σ (upd G c' (LamX.CodeO c' d.qual)) (upd (upd H Pt (.tbl ps')) c' (LamX.CodeO c' d.qual)) := by
      refine R.go (ex_new gc) (fun b hb hn => ?_) ?_ (fun p L e => ?_) ⟨fun p hp => ?_, fun q hq => ?_⟩
      · have h1 : b ≠ Pt := fun z => hn.2 (by rw [z]; exact mt)
        have h2 : b ≠ c' := fun z => hb (by rw [z]; exact nc)
        exact ⟨(upd_ne h2).trans (upd_ne h1), upd_ne h2⟩
      · exact ex_fix fun b o h => (upd_ne fun z => by rw [z, gP] at h; cases h).trans (R.ex b o h)
      · obtain ⟨h1, h2⟩ := R.pen p L e
        obtain ⟨n1, n2⟩ := h1.ne nc
        have h3 := h1
        obtain ⟨ns, a1, a2, a3, a4, a5, a6, _⟩ := h3
        have m1 : Pt ≠ p := fun z => by rw [z, a5] at hP; cases hP
        have m2 : Pt ≠ L := fun z => by rw [z, a6] at hP; cases hP
        exact ⟨(h1.put m1 m2).put n1 n2, (upd_ne n1.symm).trans h2⟩
      · obtain ⟨qs, b1, b2, b3⟩ := R.tab.1 p hp
        by_cases z : p.1 = Pt
        · refine ⟨ps', by rw [z]; exact (upd_ne Pc).trans upd_at, t, fun pos cv hcv => ?_⟩
          rcases ha' pos cv hcv with h | h
          · obtain ⟨c, e1, e2⟩ := ha pos cv h
            exact ⟨c, e1, by rw [hu p hp z]; exact ex_new gc _ _ e2⟩
          · exact ⟨c', h, by rw [hu p hp z]; exact upd_at⟩
        · have z2 : p.1 ≠ c' := fun y => by rw [y, nc] at b1; cases b1
          refine ⟨qs, (upd_ne z2).trans ((upd_ne z).trans b1), b2, fun pos cv hcv => ?_⟩
          obtain ⟨c, e1, e2⟩ := b3 pos cv hcv
          exact ⟨c, e1, ex_new gc _ _ e2⟩
      · obtain ⟨qs, e⟩ := R.tab.at_ hq
        exact (upd_ne fun z => by rw [z, nc] at e; cases e).trans (R.tab.2 q hq)
    have nf1 : (upd (upd H Pt (.tbl ps')) c' (LamX.CodeO c' d.qual)) f = none := (upd_ne nf').trans ((upd_ne Pf.symm).trans nf)
    refine ⟨upd (upd G c' (LamX.CodeO c' d.qual)) f (LamO f c' d), R1.new nf1, ⟨fun b o h => (upd_ne fun z => by rw [z, gf] at h; cases h).trans (ex_new gc b o h), fun b hb ho => ?_, fun _ => Iff.rfl⟩, c', upd_at, (upd_ne nf'.symm).trans upd_at⟩
    have h1 : b ≠ Pt := fun z => ho.1.2 (by rw [z]; exact mt)
    have h2 : b ≠ c' := fun z => hb (by rw [z]; exact nc)
    have h3 : b ≠ f := fun z => hb (by rw [z]; exact nf)
    exact ⟨(upd_ne h3).trans ((upd_ne h2).trans (upd_ne h1)), (upd_ne h3).trans (upd_ne h2)⟩
def tLamM (Pt : Addr) (d : Clo.CloD) : TE := fun _ H Q => ∃ ps : Array Value, H Pt = some (.tbl ps) ∧ TriplesOk ps.toList ∧ (∀ (pos : Pos) (cv : Value), codeAmong pos ps.toList = some cv → ∃ c, cv = .ref c ∧ H c = some (LamX.CodeO c d.qual)) ∧ ∀ f c' H1, H f = none → LamNew H H1 Pt ps d f c' → Q (.ref f) H1
theorem pe_lam {X : Cx} {c Pt : Addr} {params : Arguments} {body : Expr} {scope : Scope} {pos : Pos} {q : Str} {cells : List (Str × Addr)} (TB : LamX.TabB X.base X.mg c Pt) (hcode : X.env.code = .ref c) (hq : X.env.qual ++ "<lambda>" = q) (hcl : X.env.cells = cells) (hdef : defaultsOf params X.env = ([], [])) (hfree : ∀ y ∈ scope.names, y.2 = .free → ∃ c, cells.lookup y.1 = some c) :
    PE X (.Lambda params body scope pos) (tLamM Pt ⟨q, params, body, scope, L2.cloFrom cells scope.names []⟩) := by
  subst hq hcl
  refine ⟨fun pins s σ H Q I h => ?_⟩
  obtain ⟨ps, hP, ht, ha, h⟩ := h
  exact lam_made I TB hcode hP ht ha hdef hfree fun f c' H1 s' J n l => ⟨.ref f, H1, J, rfl, h f c' H1 n l⟩
theorem e_lam {c Pt : Addr} {params : Arguments} {body : Expr} {scope : Scope} {pos : Pos} {q : Str} {cells : List (Str × Addr)} (TB : LamX.TabB base mg c Pt) (hm : (Pt, q) ∈ M.tabs) (hu : ∀ p ∈ M.tabs, p.1 = Pt → p.2 = q) (hcode : ∀ j, (F.X j).env.code = .ref c) (hq : ∀ j, (F.X j).env.qual ++ "<lambda>" = q) (hcl : ∀ j, (F.X j).env.cells = cells)
    (hfree : ∀ y ∈ scope.names, y.2 = .free → ∃ c, cells.lookup y.1 = some c) (hdef : ∀ j, defaultsOf params (F.X j).env = ([], []) := by intro _; rfl) : ED M F (.Lambda params body scope pos) (dC (.clo ⟨q, params, body, scope, L2.cloFrom cells scope.names []⟩)) := by
  refine ⟨_, fun j => pe_lam (by rw [F.hb j, F.hm j]; exact TB) (hcode j) (hq j) (hcl j) (hdef j) hfree, fun s σ G H R Q rel h qq => ?_⟩
  obtain ⟨ps, h1, h2, h3⟩ := rel.tab.1 _ hm
  refine ⟨ps, h1, h2, fun pos cv hc => ?_, fun f c' H1 nf ln => ?_⟩
  · obtain ⟨c, e1, e2⟩ := h3 pos cv hc
    exact ⟨c, e1, rel.ex _ _ e2⟩
  · obtain ⟨G1, r1, g1, la⟩ := rel.lam (d := ⟨q, params, body, scope, L2.cloFrom cells scope.names []⟩) hm hu h1 h2 h3 nf ln
    exact qq _ _ _ _ _ h r1 g1 (.clo la)
end
/-! ### a call with the frame's cells pinned -/
/-- the value of a captured name -/
@[simp] def slotOf (N : List Str) (sl : List Slot) (y : Str) : Option D := match sl[N.idxOf y]? with
  | some (.d x) => some x
  | _ => none
mutual
inductive Seal (cells : List (Str × Addr)) (ns N : List Str) (sl : List Slot) : D → D → Prop
  | flat {d : D} (h : flat d = true) : Seal cells ns N sl d d
  | clo {q : Str} {params : Arguments} {body : Expr} {scope : Scope} {env : List D} (hs : (frees ⟨q, params, body, scope, L2.cloFrom cells scope.names []⟩).all (fun y => decide (y ∈ ns) && decide (y ∈ N)) = true) (he : (frees ⟨q, params, body, scope, L2.cloFrom cells scope.names []⟩).map (slotOf N sl) = env.map some) (hf : flats env = true) :
      Seal cells ns N sl (.clo ⟨q, params, body, scope, L2.cloFrom cells scope.names []⟩) (.sc ⟨q, params, body, scope, L2.cloFrom cells scope.names []⟩ env)
  | tup {ds es : List D} (h : Seals cells ns N sl ds es) : Seal cells ns N sl (.tup ds) (.tup es)
  | lst {ds es : List D} (h : Seals cells ns N sl ds es) : Seal cells ns N sl (.lst ds) (.lst es)
inductive Seals (cells : List (Str × Addr)) (ns N : List Str) (sl : List Slot) : List D → List D → Prop
  | nil : Seals cells ns N sl [] []
  | cons {d e : D} {ds es : List D} (h : Seal cells ns N sl d e) (t : Seals cells ns N sl ds es) : Seals cells ns N sl (d :: ds) (e :: es)
end
section
variable {cells : List (Str × Addr)} {ns N : List Str} {M : Cm} {s : S} {σ : L2.St} {G H Hp : Hp}
/-- G with the pins of Hp -/
def addP (cs : List Addr) (Hp G : L2.Hp) : L2.Hp := fun b => if b ∈ cs then Hp b else G b
theorem addP_in {cs : List Addr} {Hp G : L2.Hp} {b : Addr} (h : b ∈ cs) : addP cs Hp G b = Hp b := if_pos h
theorem addP_out {cs : List Addr} {Hp G : L2.Hp} {b : Addr} (h : b ∉ cs) : addP cs Hp G b = G b := if_neg h
theorem cl_free : ∀ {names : List (Str × NameKind)} {acc : List (Str × Addr)} {y : Str} {c : Addr}, (y, c) ∈ L2.cloFrom cells names acc → (∀ p ∈ names, p.2 = .free → ∃ c, cells.lookup p.1 = some c) → (y, c) ∈ acc ∨ ((y, NameKind.free) ∈ names ∧ cells.lookup y = some c) := fun {names acc y c} h hf => by
  rcases cloFrom_mem h with h1 | ⟨h1, h2⟩
  · exact .inl h1
  · obtain ⟨c1, hc⟩ := hf _ h1 rfl
    have hc : cells.lookup y = some c1 := hc
    refine .inr ⟨h1, ?_⟩
    rw [h2, hc] <;> rfl
theorem seal_clo (r : Rel M s σ G H) (pr : PinRel cells ns N σ H Hp) (hN : N.Nodup) (has : ∀ y ∈ ns, ∃ c, cells.lookup y = some c) {d : Clo.CloD} {env : List D} {f : Addr} (ed : d.cl = L2.cloFrom cells d.scope.names []) (hs : (frees d).all (fun y => decide (y ∈ ns) && decide (y ∈ N)) = true) (he : (frees d).map (slotOf N s.sl) = env.map some) (hf : flats env = true) (la : LamAt G f d) :
    Vd (addP (csOf cells ns) Hp G) (.ref f) (.sc d env) := by
  have ex : Ex G (addP (csOf cells ns) Hp G) := fun b o e => (addP_out fun z => by rw [ex_none r.ex (pr.no b z)] at e; cases e).trans e
  have mem : ∀ {y : Str} {c : Addr}, y ∈ ns → cells.lookup y = some c → c ∈ csOf cells ns := fun hy e => List.mem_filterMap.mpr ⟨_, hy, e⟩
  have hs := fun y hy => List.all_eq_true.mp hs y hy
  have lenE : (frees d).length = env.length := by
    have := congrArg List.length he
    simpa using this
  have fr : ∀ p ∈ d.scope.names, p.2 = .free → p.1 ∈ frees d := fun p hp e => List.mem_filterMap.mpr ⟨p, hp, by rw [if_pos e]⟩
  have inns : ∀ y ∈ frees d, y ∈ ns ∧ y ∈ N := fun y hy => by
    have h := hs y hy
    simpa only [Bool.and_eq_true, decide_eq_true_eq] using h
  have hfree : ∀ p ∈ d.scope.names, p.2 = .free → ∃ c, cells.lookup p.1 = some c := fun p hp e => has _ (inns _ (fr p hp e)).1
  -- the values
  have val : ∀ (i : Nat) (y : Str), (frees d)[i]? = some y → ∃ x v, env[i]? = some x ∧ Vd G v x ∧ ∃ j : Nat, N[j]? = some y ∧ σ[j]? = some (some v) := fun i y hi => by
    have h1 := congrArg (fun l => l[i]?) he
    simp only [List.getElem?_map, hi, Option.map_some] at h1
    cases q : env[i]? with
    | none => rw [q] at h1; cases h1
    | some x =>
      rw [q] at h1
      have h1 : slotOf N s.sl y = some x := Option.some.inj h1
      unfold slotOf at h1
      split at h1
      · rename_i x' hx
        cases h1
        obtain ⟨v, e1, e2⟩ := r.getD hx
        have hyN := (inns y (List.mem_of_getElem? hi)).2
        exact ⟨x, v, rfl, e2, N.idxOf y, by rw [List.getElem?_eq_getElem (List.idxOf_lt_length_iff.mpr hyN), List.getElem_idxOf], e1⟩
      · cases h1
  -- a row of them
  obtain ⟨vs, hvs, hval⟩ : ∃ vs, Vds G vs env ∧ ∀ (i : Nat) (y : Str), (frees d)[i]? = some y → ∃ (v : V) (j : Nat), vs[i]? = some v ∧ N[j]? = some y ∧ σ[j]? = some (some v) := by
    have key : ∀ (ys : List Str) (es : List D), ys.length = es.length → (∀ (i : Nat) (y : Str), ys[i]? = some y → ∃ x v, es[i]? = some x ∧ Vd G v x ∧ ∃ j : Nat, N[j]? = some y ∧ σ[j]? = some (some v)) → ∃ vs, Vds G vs es ∧ ∀ (i : Nat) (y : Str), ys[i]? = some y → ∃ (v : V) (j : Nat), vs[i]? = some v ∧ N[j]? = some y ∧ σ[j]? = some (some v) := by
      intro ys
      induction ys with
      | nil =>
        intro es hl _
        cases es with
        | nil => exact ⟨[], .nil, fun i y h => by cases h⟩
        | cons e es => cases hl
      | cons y ys ih =>
        intro es hl h
        cases es with
        | nil => cases hl
        | cons e es =>
          obtain ⟨vs, h1, h2⟩ := ih es (Nat.succ.inj hl) fun i z hz => h (i + 1) z hz
          obtain ⟨x, v, e1, e2, j, e3, e4⟩ := h 0 y rfl
          cases e1
          refine ⟨v :: vs, .cons e2 h1, fun i z hz => ?_⟩
          cases i with
          | zero =>
            cases hz
            exact ⟨v, j, rfl, e3, e4⟩
          | succ i => exact h2 i z hz
    exact key _ _ lenE val
  have pinAt : ∀ {c : Addr} {o : Obj}, c ∈ csOf cells ns → Hp c = some (PinO c o) → addP (csOf cells ns) Hp G c = some (PinO c o) := fun hc e => (addP_in hc).trans e
  refine .sc (la.mono ex) ⟨by rw [hvs.len, lenE], fun p hp => ?_, fun i y v h1 h2 => ?_⟩ (Vds.mono ex hvs)
  · rw [ed] at hp
    rcases cl_free (y := p.1) (c := p.2) hp hfree with h | ⟨h1, h2⟩
    · cases h
    · have hy := (inns _ (fr _ h1 rfl)).1
      obtain ⟨o, w, e1, e2⟩ := pr.pin p.2 (mem hy h2)
      exact ⟨o, w, pinAt (mem hy h2) e1, e2⟩
  · obtain ⟨v', j, e1, e2, e3⟩ := hval i y h1
    rw [h2] at e1
    cases e1
    have hy := (inns y (List.mem_of_getElem? h1)).1
    obtain ⟨c, o, u, a1, a2, a3, a4⟩ := pr.val j y v hy e2 e3
    refine ⟨c, o, u, ?_, pinAt (mem hy a1) a2, a3, a4⟩
    rw [ed]
    have hm := List.mem_of_getElem? h1
    unfold frees at hm
    obtain ⟨p, hp, e⟩ := List.mem_filterMap.mp hm
    split at e
    · rename_i hfr
      cases e
      obtain ⟨k, kind⟩ := p
      have hfr : kind = .free := hfr
      subst hfr
      obtain ⟨c2, h3⟩ := mem_lookup (cloFrom_has (cells := cells) (acc := []) hp)
      rcases cl_free (PySem.mem_of_lookup h3) hfree with h | ⟨_, h4⟩
      · cases h
      · have a1 : cells.lookup k = some c := a1
        rw [a1] at h4
        cases h4
        exact h3
    · cases e
mutual
theorem Seal.vd (r : Rel M s σ G H) (pr : PinRel cells ns N σ H Hp) (hN : N.Nodup) (has : ∀ y ∈ ns, ∃ c, cells.lookup y = some c) {d e : D} {v : V} (h : Seal cells ns N s.sl d e) (hv : Vd G v d) : Vd (addP (csOf cells ns) Hp G) v e := by
  have ex : Ex G (addP (csOf cells ns) Hp G) := fun b o e => (addP_out fun z => by rw [ex_none r.ex (pr.no b z)] at e; cases e).trans e
  match h with
  | .flat h => exact Vd.mono ex hv
  | .clo hs he hf =>
    cases hv with
    | clo la => exact seal_clo r pr hN has rfl hs he hf la
  | .tup h =>
    cases hv with
    | tup e t => exact .tup (ex _ _ e) (Seals.vd r pr hN has h t)
  | .lst h =>
    cases hv with
    | lst e t => exact .lst (ex _ _ e) (Seals.vd r pr hN has h t)
theorem Seals.vd (r : Rel M s σ G H) (pr : PinRel cells ns N σ H Hp) (hN : N.Nodup) (has : ∀ y ∈ ns, ∃ c, cells.lookup y = some c) {ds es : List D} {vs : List V} (h : Seals cells ns N s.sl ds es) (hv : Vds G vs ds) : Vds (addP (csOf cells ns) Hp G) vs es := by
  match h with
  | .nil =>
    cases hv
    exact .nil
  | .cons h t =>
    cases hv with
    | cons a b => exact .cons (h.vd r pr hN has a) (t.vd r pr hN has b)
end
end
end DL
/-! a call that gets closures; try: work() with clauses -/
namespace DL
open PySem PySem.Spec PyProof.Rows L2 Clo
theorem frOk_unp {cs : List Addr} {G H Hp G' H' : L2.Hp} {c : Int} (e : Ex G H) (no : ∀ c ∈ cs, H c = none) (out : ∀ b, b ∉ cs → Hp b = H b) (f : FrOk ⟨none, addP cs Hp G, Hp, []⟩ c G' H') : FrOk ⟨none, G, H, []⟩ c (unp cs G') (unp cs H') := by
  refine ⟨fun b o h => ?_, ex_unp f.ex, fun b hb hn => ?_, (fun p L z => nomatch z), ⟨(fun p hp => nomatch hp), (fun q hq => nomatch hq)⟩⟩
  · have nb : b ∉ cs := fun z => by
      have := e b o h
      rw [no b z] at this
      cases this
    rw [unp_out nb]
    exact f.g b o ((addP_out nb).trans h)
  · have hb : H b ≠ none := hb
    have nb : b ∉ cs := fun z => hb (no b z)
    obtain ⟨a1, a2⟩ := f.fr b (by show Hp b ≠ none; rw [out b nb]; exact hb) (fr_nil b)
    rw [unp_out nb, unp_out nb]
    exact ⟨a1.trans (out b nb), a2.trans (addP_out nb)⟩
section
variable {P : Program} {w : World} {K : PySem.W.Frag} {mg : Str → Option Value} {base : Heap} {k : Nat} {M : Cm} {F : Fam P w K mg base k}
/-- f(e, ..), f without a pen; closures among the arguments -/
@[simp] def dCallS (cells : List (Str × Addr)) (ns N : List Str) (Φ : DFn) (RX : DX → Int → Prop) (ψ : DA) : DE := fun s R => ψ s fun ds s1 => ∃ es, Seals cells ns N s1.sl ds es ∧ Φ es 0 (fun d _ => flat d = true ∧ R d s1) fun x _ => flats x.ds = true ∧ RX x s1.c
theorem e_callS {kf : Nat} {f : Addr} {fd : FuncData} {ps : List Str} {Φ : DFn} {x : Str} {p pos : Pos} {e : Expr} {es : List Expr} {ψ : DA} {RX : DX → Int → Prop} {cells : List (Str × Addr)} {ns N : List Str} (Fn : Gd.FnG P w K mg base (L2.CX P w) kf f fd ps (spF false [] Φ)) (hk : kf ≤ k) (hm : mg x = some (.ref f)) (kp : PySem.W.keepIn K (.ref f) = true)
    (hb : Binds K fd ps []) (hE : XS M F.E RX) (ni : Nice M) (hcl : ∀ j, (F.X j).env.cells = cells) (hNj : ∀ j, (F.X j).N = N) (hnd : N.Nodup) (hns : ∀ j, ∀ y ∈ ns, (F.X j).env.kindOf y = some .cell) (hfn : ∀ j, (F.X j).fn = fun _ => true) (has : ∀ y ∈ ns, ∃ c, cells.lookup y = some c)
    (ha : EA M F (e :: es) ψ) (hg : ∀ j, Gl (F.X j) x) (hdb : (x == ("__debug__" : Str)) = false := by decide)
    (he : ∀ j, starEach (e :: es) (F.X j).env = (false, eval e (F.X j).env) :: starEach es (F.X j).env := by intro _; rfl) (hpl : ∀ j, (backTo pos (starEach es (F.X j).env)).any (·.1) = false := by intro _; rfl) : ED M F (.Call (.Name x p) (e :: es) [] pos) (dCallS cells ns N Φ RX ψ) := by
  obtain ⟨t, q, a⟩ := ha
  refine ⟨tCallPin cells ns N (spF false [] Φ) F.E t, fun j => ?_, fun s σ G H R Q rel h q => ?_⟩
  · have Fn' : Gd.FnG (F.X j).prog (F.X j).w (F.X j).K (F.X j).mg (F.X j).base (L2.CX (F.X j).prog (F.X j).w) kf f fd ps (spF false [] Φ) := by rw [F.hP j, F.hw j, F.hK j, F.hm j, F.hb j]; exact Fn
    have px : Passes (L2.CX (F.X j).prog (F.X j).w) (F.X j) F.E := by rw [F.hP j, F.hw j]; exact F.hx j
    have := pe_callPin (x := x) (p := p) (pos := pos) Fn' ((F.hr j).mono hk) (F.hG j) (hg j) (by rw [F.hm j]; exact hm) (by rw [F.hK j]; exact kp) (by rw [F.hK j]; exact hb) px (hns j) (hfn j) (q j) hdb (he j) (hpl j)
    rw [hcl j, hNj j] at this
    exact this
  · refine a s σ G H _ _ rel h fun ds s1 vs G1 H1 h1 r1 g1 hvs => ?_
    obtain ⟨es', hs, h1⟩ := h1
    intro Hp pr
    have exA : Ex (addP (csOf cells ns) Hp G1) Hp := fun b o e => by
      by_cases z : b ∈ csOf cells ns
      · rw [addP_in z] at e; exact e
      · rw [addP_out z] at e; exact (pr.out b z).trans (r1.ex b o e)
    refine ⟨⟨none, addP (csOf cells ns) Hp G1, Hp, []⟩, vs, es', 0, (fun d _ => flat d = true ∧ R d s1), (fun x _ => flats x.ds = true ∧ RX x s1.c), rfl, rfl, rfl, by simp [penA], ⟨Ex.rf _, exA, fun b _ _ => ⟨rfl, rfl⟩, (fun p L z => nomatch z), ⟨(fun p hp => nomatch hp), (fun q hq => nomatch hq)⟩⟩, hs.vd r1 pr hnd has hvs, h1, fun d c' v G' H' hd fo hv => ?_, fun y c cls d G' H' hy fo xo => ?_⟩
    · have st : ∀ c ∈ csOf cells ns, H' c = Hp c := fun c hc => by
        obtain ⟨o, w, e, _⟩ := pr.pin c hc
        exact (fo.fr c (by show Hp c ≠ none; rw [e]; exact fun z => nomatch z) (fr_nil c)).1
      have pa : PinAll (csOf cells ns) G' := fun c hc u e => by
        obtain ⟨o, w, e2, _⟩ := pr.pin c hc
        have := fo.ex c u e
        rw [st c hc, e2] at this
        exact ⟨o, (Option.some.inj this).symm⟩
      have fo2 := frOk_unp r1.ex pr.no pr.out fo
      obtain ⟨r2, g2⟩ := r1.called (M' := ⟨none, G1, H1, []⟩) rfl rfl (.inl ⟨rfl, rfl⟩) fo2
      exact ⟨st, q _ _ _ _ _ hd.2 r2 (g1.tr g2) (Vd.unp pa hd.1 hv)⟩
    · have st : ∀ c ∈ csOf cells ns, H' c = Hp c := fun c hc => by
        obtain ⟨o, w, e, _⟩ := pr.pin c hc
        exact (fo.fr c (by show Hp c ≠ none; rw [e]; exact fun z => nomatch z) (fr_nil c)).1
      have pa : PinAll (csOf cells ns) G' := fun c hc u e => by
        obtain ⟨o, w, e2, _⟩ := pr.pin c hc
        have := fo.ex c u e
        rw [st c hc, e2] at this
        exact ⟨o, (Option.some.inj this).symm⟩
      have fo2 := frOk_unp r1.ex pr.no pr.out fo
      obtain ⟨r2, g2⟩ := r1.called (M' := ⟨none, G1, H1, []⟩) rfl rfl (.inl ⟨rfl, rfl⟩) fo2
      obtain ⟨x1, dx, us, x2, x3, x4, x5⟩ := xo
      refine ⟨st, hE y _ cls d _ _ hy.2 (r2.frOk ni) ⟨x1, dx, us, x2, (unp_out fun z => ?_).trans x3, x4, Vds.unp pa hy.1 x5⟩⟩
      obtain ⟨o, w, e2, _⟩ := pr.pin dx z
      rw [st dx z, e2] at x3
      cases x3
end
/-! ### the clauses' values: (tag, fault.f, ..) -/
def tagT (K : PySem.W.Frag) (tag : Str) (C : Addr) (ns : List Str) (a : Addr) (cls : Value) (d : Option Addr) : TE := tTup (tCons (tC (.str tag)) (ns.foldr (fun n t => tCons (tXf a cls d C n (tVar 1)) t) tNil))
def clOf (K : PySem.W.Frag) (q : Str × Addr × List Str) : TryR.Cl := ⟨.ref q.2.1, tagT K q.1 q.2.1 q.2.2⟩
theorem lookup_rev : ∀ (ns : List Str) (vs : List V), ns.Nodup → ns.length = vs.length → ∀ (i : Nat) (n : Str) (v : V), ns[i]? = some n → vs[i]? = some v → (ns.zip vs).reverse.lookup n = some v := by
  have app : ∀ (l : List (Str × V)) (n m : Str) (v : V), (l ++ [(m, v)]).lookup n = match l.lookup n with
      | some x => some x
      | none => if n == m then some v else none := fun l n m v => by
    induction l with
    | nil => simp [List.lookup]; split <;> simp_all
    | cons p l ih =>
      obtain ⟨a, b⟩ := p
      simp only [List.cons_append, List.lookup]
      split
      · rfl
      · exact ih
  have none_ : ∀ (ns : List Str) (vs : List V) (n : Str), n ∉ ns → (ns.zip vs).reverse.lookup n = none := fun ns => by
    induction ns with
    | nil => intro vs n _; rfl
    | cons m ns ih =>
      intro vs n hn
      cases vs with
      | nil => rfl
      | cons v vs =>
        rw [List.zip_cons_cons, List.reverse_cons, app, ih vs n fun z => hn (List.mem_cons_of_mem _ z)]
        have : (n == m) = false := by
          rw [beq_eq_false_iff_ne]
          exact fun z => hn (by rw [z]; exact List.mem_cons_self)
        simp [this]
  intro ns
  induction ns with
  | nil => intro vs _ _ i n v h; cases h
  | cons m ns ih =>
    intro vs nd hl i n v h1 h2
    cases vs with
    | nil => cases hl
    | cons x vs =>
      obtain ⟨nm, nd⟩ := List.nodup_cons.mp nd
      rw [List.zip_cons_cons, List.reverse_cons, app]
      cases i with
      | zero =>
        cases h1
        cases h2
        rw [none_ ns vs _ nm]
        simp
      | succ i => rw [ih vs nd (Nat.succ.inj hl) i n v h1 h2]
theorem tags_read {C a dx : Addr} {H : Hp} {fs : List (Str × V)} {σ : L2.St} (hs : σ[1]? = some (some (.ref a))) (hd : H dx = some (.xd fs)) : ∀ (ns : List Str) (vs : List V), ns.length = vs.length → (∀ (i : Nat) (n : Str) (v : V), ns[i]? = some n → vs[i]? = some v → fs.lookup n = some v) → ∀ Q : List V → Hp → Prop, Q vs H →
    ns.foldr (fun n t => tCons (tXf a (.ref C) (some dx) C n (tVar 1)) t) tNil σ H Q
  | [], [], _, _, Q, h => h
  | n :: ns, v :: vs, hl, hf, Q, h => ⟨_, hs, rfl, rfl, dx, fs, v, rfl, hd, hf 0 n v rfl rfl, tags_read hs hd ns vs (Nat.succ.inj hl) (fun i n v h1 h2 => hf (i + 1) n v h1 h2) (fun xs H' => Q (v :: xs) H') h⟩
/-- one of the clauses takes it -/
theorem aim_ok {K : PySem.W.Frag} {out : WX} {rt : VK} {dx : Addr} {H : Hp} {vs : List V} {x : DX} {σ : L2.St} (hσ : σ.length = 2) (hd : H dx = some (.xd (x.ns.zip vs).reverse)) (hl : x.ns.length = vs.length) (nd : x.ns.Nodup) (hlen : vs.length < 9000) : ∀ (l : List (Str × Addr × List Str)) (tag : Str), (∀ q ∈ l, PySem.W.exmOne K (.ref x.C) (.ref q.2.1) = some (decide (x.C = q.2.1))) → (∀ q ∈ l, q.2.1 = x.C → q.1 = tag ∧ q.2.2 = x.ns) → (∃ q ∈ l, q.2.1 = x.C) →
    (∀ p H', H p = none → H' = upd H p (.tup (.str tag :: vs)) → rt (.ref p) H') → TryR.aim K 1 out rt (l.map (clOf K)) (.ref x.C) (some dx) σ H
  | [], _, _, _, ⟨q, hq, _⟩, _ => nomatch hq
  | q :: l, tag, he, ht, hx, hr => by
    refine ⟨_, he q List.mem_cons_self, fun hb a _ => ?_, fun hb => ?_⟩
    · have hc : x.C = q.2.1 := of_decide_eq_true hb
      obtain ⟨e1, e2⟩ := ht q List.mem_cons_self hc.symm
      have hs : (σ.set 1 (some (V.ref a)))[1]? = some (some (.ref a)) := by
        rw [List.getElem?_set, if_pos rfl, if_pos (by omega)]
      show tagT K q.1 q.2.1 q.2.2 a (.ref x.C) (some dx) _ H rt
      rw [e1, e2, ← hc]
      refine tags_read hs hd x.ns vs hl (lookup_rev x.ns vs nd hl) _ ⟨by rw [List.length_cons, sizeLine_eq]; omega, fun p hp => hr p _ hp rfl⟩
    · have hc : x.C ≠ q.2.1 := of_decide_eq_false hb
      refine aim_ok hσ hd hl nd hlen l tag (fun q hq => he q (.tail _ hq)) (fun q hq => ht q (.tail _ hq)) ?_ hr
      obtain ⟨r, hr, e⟩ := hx
      rcases List.mem_cons.mp hr with z | z
      · exact absurd (by rw [← e, z]) hc
      · exact ⟨r, z, e⟩
/-- work() -/
def tWork (P : Program) (w : World) (K : PySem.W.Frag) (mg : Str → Option Value) (base : Heap) (kk : Nat) (W : WX) : TS := tDrop fun σ H Q => ∃ f d vs sp, σ[0]? = some (some (.ref f)) ∧ CloG P w K mg base kk d sp ∧ LamAt H f d ∧ SC H d vs ∧ sp vs H Q (fun cls dd H' => W cls dd σ H')
/-- what is told of a call's fault -/
def Φ_fault (P : Program) (w : World) (K : PySem.W.Frag) (mg : Str → Option Value) (base : Heap) (kk : Nat) (l : List (Str × Addr × List Str)) : DFn := fun ds c R _ => ∃ d env Ψ, ds = [.sc d env] ∧ flats env = true ∧ CloD P w K mg base kk d Ψ ∧ Ψ env c (fun _ c' => R .non c') fun x c' => ∃ tag, (tag, x.C, x.ns) ∈ l ∧ R (.tup (.str tag :: x.ds)) c'
/-- what the clauses ask of their classes -/
structure TagsOk (K : PySem.W.Frag) (l : List (Str × Addr × List Str)) : Prop where
  one : ∀ q ∈ l, ∀ r ∈ l, PySem.W.exmOne K (.ref q.2.1) (.ref r.2.1) = some (decide (q.2.1 = r.2.1))
  same : ∀ q ∈ l, ∀ r ∈ l, q.2.1 = r.2.1 → q = r
  nd : ∀ q ∈ l, q.2.2.Nodup ∧ q.2.2.length < 1000
section
variable {P : Program} {w : World} {K : PySem.W.Frag} {mg : Str → Option Value} {base : Heap} {kk : Nat} {f : Addr} {fd : FuncData}
theorem ok_fault {x : Str} {st : Stmt} {l : List (Str × Addr × List Str)} (Fd : FunD K x x (defArgs st) (defBody st) (defScope st) [] [] f fd) (S : FnScope ["work", "fault"] ["work"] (defScope st)) (T : TagsOk K l)
    (hbody : ∀ X : Cx, X.prog = P → X.w = w → X.K = K → X.mg = mg → X.base = base → X.N = [("work" : Str), ("fault" : Str)] → X.env.scope = defScope st → X.stack = X.env :: X.outer → X.env.frame = some X.env.locals → Room kk X.A → X.A.guards = some [] → ∀ Wout : WX, Takes X Wout →
      PSs X (defBody st) (tSeq (fun D σ H => tWork P w K mg base kk (TryR.aim K 1 Wout D.rt (l.map (clOf K))) D σ H) (tRet (tC .non)))) :
    Gd.FnG P w K mg base (L2.CX P w) (kk + 1) f fd ["work"] (spF false [] (Φ_fault P w K mg base kk l)) := by
  refine Gd.fnG_of Fd S (fun vs H Q E h => ?_) (fun cdv A outer s H vs Q E hr hG h => ?_)
  · obtain ⟨M, us, ds, c, R, RX, h1, h2, ht, rfl, h4, h5, ⟨d, env, Ψ, rfl, _⟩, _⟩ := h
    cases q : M.pen with
    | none =>
      cases h5 with
      | cons a t =>
        cases t
        rfl
    | some p => rw [q] at h2; cases h2
  · obtain ⟨M, us, ds, c, R, RX, h1, h2, ht, rfl, h4, h5, ⟨d, env, Ψ, rfl, hfl, hC, hΨ⟩, h7, h8⟩ := h
    subst h1
    have pn : M.pen = none := by
      cases q : M.pen with
      | none => rfl
      | some p => rw [q] at h2; cases h2
    have tb := ht
    obtain ⟨pen, G0, H0, tabs⟩ := M
    obtain rfl : pen = none := pn
    obtain rfl : tabs = [] := tb
    refine ⟨_, hbody (cxOf (L2.CX P w) P w K mg base ([("work" : Str), ("fault" : Str)]) x (defScope st) f cdv A outer s H0 E) rfl rfl rfl rfl rfl rfl rfl rfl rfl hr hG (fun cls d _ H => E cls d H) body_takes, ?_⟩
    cases h5 with
    | cons a t =>
      cases t
      cases a with
      | @sc f0 d vs env la sc hv =>
        have ex : Ex G0 H0 := h4.ex
        refine ⟨f0, d, vs, _, rfl, hC, la.mono ex, sc.mono ex, G0, env, c, _, _, ex, hv, hfl, hΨ, fun d' c' v G' H' hR fo hv' => ?_, fun y c' cls dd G' H' hy fo xo => ?_⟩
        · exact h7 .non c' .non G' H' hR fo .non
        · obtain ⟨tag, hm, hR⟩ := hy
          obtain ⟨x1, dx, us, x2, x3, x4, x5⟩ := xo
          subst x1 x2
          have hn := T.nd _ hm
          refine aim_ok rfl x3 x4 hn.1 (by have := hn.2; have : y.ns.length < 1000 := this; omega) l tag (fun q hq => T.one _ hm q hq) (fun q hq e => ?_) ⟨_, hm, rfl⟩ fun p H2 hp e => ?_
          · have := T.same q hq _ hm e
            rw [this]
            exact ⟨rfl, rfl⟩
          · subst e
            have gp := ex_none fo.ex hp
            have eg := ex_new (o := .tup (.str tag :: us)) gp
            refine h7 _ c' _ (upd G' p (.tup (.str tag :: us))) _ hR ⟨fo.g.tr eg, ex_fix fo.ex, fun b hb hn => ?_, (fun p L z => nomatch z), ⟨(fun p hp => nomatch hp), (fun q hq => nomatch hq)⟩⟩ (.tup upd_at (.cons (.str tag) (Vds.mono eg x5)))
            obtain ⟨e1, e2⟩ := fo.fr b hb hn
            have nb : b ≠ p := fun z => hb (by rw [← e1, z]; exact hp)
            exact ⟨(upd_ne nb).trans e1, (upd_ne nb).trans e2⟩
end
end DL
/-! + * of any kind, slices, loops over what is a list or a tuple, builtins, repr -/
namespace DL
open PySem PySem.Spec PyProof.Rows L2
/-! ### cuts -/
def cutD (xs : List D) (lo hi : Option Int) : List D := (xs.drop (HT.sIx xs.length 0 lo)).take (HT.sIx xs.length xs.length hi - HT.sIx xs.length 0 lo)
theorem Vds.drop {G : Hp} : ∀ {ds : List D} {vs : List V}, Vds G vs ds → ∀ n : Nat, Vds G (vs.drop n) (ds.drop n)
  | _, _, h, 0 => h
  | _, _, .nil, _ + 1 => .nil
  | _, _, .cons _ t, n + 1 => t.drop n
theorem Vds.take {G : Hp} : ∀ {ds : List D} {vs : List V}, Vds G vs ds → ∀ n : Nat, Vds G (vs.take n) (ds.take n)
  | _, _, _, 0 => .nil
  | _, _, .nil, _ + 1 => .nil
  | _, _, .cons h t, n + 1 => .cons h (t.take n)
theorem Vds.cut {G : Hp} {ds : List D} {vs : List V} (h : Vds G vs ds) (lo hi : Option Int) : Vds G (cutV vs lo hi) (cutD ds lo hi) := by
  unfold cutV cutD
  rw [h.len]
  exact (h.drop _).take _
theorem Vds.rep {G : Hp} {ds : List D} {vs : List V} (h : Vds G vs ds) : ∀ n : Nat, Vds G (List.replicate n vs).flatten (List.replicate n ds).flatten
  | 0 => .nil
  | n + 1 => by
    rw [List.replicate_succ, List.replicate_succ, List.flatten_cons, List.flatten_cons]
    exact h.app (h.rep n)
section
variable {P : Program} {w : World} {K : PySem.W.Frag} {mg : Str → Option Value} {base : Heap} {k : Nat} {M : Cm} {F : Fam P w K mg base k}
theorem OSound.or {r r' : R2} {ρ ρ' σ : DO} (h : OSound r ρ) (h' : OSound r' ρ') (hs : ∀ a b R, σ a b R → ρ a b R ∨ ρ' a b R) : OSound (fun x y H Q => r x y H Q ∨ r' x y H Q) σ := by
  intro G H x y a b R Q e hx hy hh q q2
  rcases hs a b R hh with z | z
  · exact .inl (h G H x y a b R Q e hx hy z q q2)
  · exact .inr (h' G H x y a b R Q e hx hy z q q2)
/-! ### + -/
@[simp] def oCatA : DO := fun a b R => match a, b with
  | .tup xs, .tup ys => xs.length + ys.length ≤ 10000 ∧ R (.tup (xs ++ ys))
  | _, _ => False
theorem o_catA : OSound (rCatA K) oCatA := by
  intro G H x y a b R Q e hx hy h q q2
  unfold oCatA at h
  split at h
  · rename_i xs ys
    cases hx with
    | @tup p vs _ hp hv =>
      cases hy with
      | @tup p2 us _ hp2 hu =>
        refine ⟨p, p2, vs, us, rfl, rfl, .inl (.inl (e _ _ hp)), .inl (.inl (e _ _ hp2)), by rw [hv.len, hu.len, sizeLine_eq]; have := h.1; omega, fun z => ?_, fun _ z => ?_, fun _ _ l hl => q2 _ _ l _ h.2 hl (fun G' eg hl' => .tup hl' (Vds.mono eg (hv.app hu))) rfl⟩
        · have e1 : xs = [] := List.eq_nil_of_length_eq_zero (by rw [← hv.len, z]; rfl)
          subst e1
          exact q _ _ h.2 (.tup hp2 hu)
        · have e1 : ys = [] := List.eq_nil_of_length_eq_zero (by rw [← hu.len, z]; rfl)
          subst e1
          rw [List.append_nil] at h
          exact q _ _ h.2 (.tup hp hv)
  · exact h.elim
@[simp] def oCatL : DO := fun a b R => match a, b with
  | .lst xs, .lst ys => xs.length + ys.length ≤ 10000 ∧ R (.lst (xs ++ ys))
  | _, _ => False
theorem o_catL : OSound rCat oCatL := by
  intro G H x y a b R Q e hx hy h q q2
  unfold oCatL at h
  split at h
  · rename_i xs ys
    cases hx with
    | @lst p vs _ hp hv =>
      cases hy with
      | @lst p2 us _ hp2 hu =>
        exact ⟨p, p2, vs, us, rfl, rfl, e _ _ hp, e _ _ hp2, by rw [hv.len, hu.len, sizeLine_eq]; have := h.1; omega, fun l hl => q2 _ _ l _ h.2 hl (fun G' eg hl' => .lst hl' (Vds.mono eg (hv.app hu))) rfl⟩
  · exact h.elim
@[simp] def oAddX : DO := fun a b R => match a, b with
  | .int i, .int j => R (.int (i + j))
  | .tup xs, .tup ys => xs.length + ys.length ≤ 10000 ∧ R (.tup (xs ++ ys))
  | .lst xs, .lst ys => xs.length + ys.length ≤ 10000 ∧ R (.lst (xs ++ ys))
  | _, _ => False
theorem e_addX {x y : Expr} {pos} {φ ψ : DE} (h1 : ED M F x φ) (h2 : ED M F y ψ) : ED M F (.BinOp x .Add y pos) (dOp oAddX φ ψ) := by
  refine e_op (r := fun x y H Q => (rI0 fun i j => .int (i + j)) x y H Q ∨ (rCatA K x y H Q ∨ rCat x y H Q)) (fun j => OpR.or2 op_add (OpR.or2 (by have := op_catA (X := F.X j); rw [F.hK j] at this; exact this) op_cat))
    (OSound.or (ρ := oI0 fun i j => .int (i + j)) (o_I0 fun _ _ _ => .int _) (OSound.or (σ := fun a b R => oCatA a b R ∨ oCatL a b R) o_catA o_catL fun a b R h => h) fun a b R h => ?_) h1 h2
  unfold oAddX at h
  split at h
  · exact .inl h
  · exact .inr (.inl h)
  · exact .inr (.inr h)
  · exact h.elim
/-! ### * -/
@[simp] def oRepL : DO := fun a b R => match a, b with
  | .lst xs, .int n => n < 10000 ∧ -10000 < n ∧ xs.length * n.toNat ≤ 10000 ∧ R (.lst (List.replicate n.toNat xs).flatten)
  | _, _ => False
theorem o_repL : OSound rRep oRepL := by
  intro G H x y a b R Q e hx hy h q q2
  unfold oRepL at h
  split at h
  · rename_i xs n
    obtain ⟨h1, h2, h3, h4⟩ := h
    cases hy
    cases hx with
    | @lst p vs _ hp hv =>
      exact ⟨p, n, vs, rfl, rfl, e _ _ hp, by omega, by omega, by rw [hv.len, sizeLine_eq]; omega, fun l hl => q2 _ _ l _ h4 hl (fun G' eg hl' => .lst hl' (Vds.mono eg (hv.rep _))) rfl⟩
  · exact h.elim
@[simp] def oRepT : DO := fun a b R => match a, b with
  | .tup xs, .int n => xs ≠ [] ∧ 2 ≤ n ∧ n ≤ 1000 ∧ xs.length ≤ 1000 ∧ R (.tup (List.replicate n.toNat xs).flatten)
  | _, _ => False
theorem o_repT : OSound (rRepT K) oRepT := by
  intro G H x y a b R Q e hx hy h q q2
  unfold oRepT at h
  split at h
  · rename_i xs n
    obtain ⟨h0, h1, h2, h3, h4⟩ := h
    cases hy
    cases hx with
    | @tup p vs _ hp hv =>
      refine ⟨p, n, vs, rfl, rfl, .inl (.inl (e _ _ hp)), fun z => h0 (List.eq_nil_of_length_eq_zero (by rw [← hv.len, z]; rfl)), h1, h2, by rw [hv.len]; exact h3, fun l hl => q2 _ _ l _ h4 hl (fun G' eg hl' => .tup hl' (Vds.mono eg (hv.rep _))) rfl⟩
  · exact h.elim
@[simp] def oMulX : DO := fun a b R => match a, b with
  | .int i, .int j => CMul i j ∧ R (.int (i * j))
  | .lst xs, .int n => n < 10000 ∧ -10000 < n ∧ xs.length * n.toNat ≤ 10000 ∧ R (.lst (List.replicate n.toNat xs).flatten)
  | .tup xs, .int n => xs ≠ [] ∧ 2 ≤ n ∧ n ≤ 1000 ∧ xs.length ≤ 1000 ∧ R (.tup (List.replicate n.toNat xs).flatten)
  | _, _ => False
theorem e_mulX {x y : Expr} {pos} {φ ψ : DE} (h1 : ED M F x φ) (h2 : ED M F y ψ) : ED M F (.BinOp x .Mult y pos) (dOp oMulX φ ψ) := by
  refine e_op (r := fun x y H Q => (rI CMul fun i j => .int (i * j)) x y H Q ∨ (rRep x y H Q ∨ rRepT K x y H Q)) (fun j => OpR.or2 op_mul (OpR.or2 op_rep (by have := op_repT (X := F.X j); rw [F.hK j] at this; exact this)))
    (OSound.or (ρ := oI CMul fun i j => .int (i * j)) (o_I fun _ _ _ => .int _) (OSound.or (σ := fun a b R => oRepL a b R ∨ oRepT a b R) o_repL o_repT fun a b R h => h) fun a b R h => ?_) h1 h2
  unfold oMulX at h
  split at h
  · exact .inl h
  · exact .inr (.inl h)
  · exact .inr (.inr h)
  · exact h.elim
/-! ### slices -/
variable (M F) in
def EO (e : Option Expr) (φ : S → (Option Int → S → Prop) → Prop) : Prop := ∃ t, (∀ j, PO (F.X j) e t) ∧ ∀ (s : S) (σ : L2.St) (G H : Hp) (R : Option Int → S → Prop) (Q : Option Int → Hp → Prop), Rel M s σ G H → φ s R → (∀ o s' G' H', R o s' → Rel M s' σ G' H' → Go M σ s G H s' G' H' → Q o H') → t σ H Q
@[simp] def oNo : S → (Option Int → S → Prop) → Prop := fun s R => R none s
@[simp] def oSome (φ : DE) : S → (Option Int → S → Prop) → Prop := fun s R => φ s fun d s1 => match d with
  | .int i => R (some i) s1
  | _ => False
theorem o_none : EO M F none oNo := ⟨_, fun _ => po_none, fun s σ G H R Q rel h q => q _ _ _ _ h rel Go.rf⟩
theorem o_some {e : Expr} {φ : DE} (h : ED M F e φ) : EO M F (some e) (oSome φ) := by
  obtain ⟨t, p, a⟩ := h
  refine ⟨_, fun j => po_some (p j), fun s σ G H R Q rel h q => ?_⟩
  refine a s σ G H _ _ rel h fun d s1 v G1 H1 h1 r1 g1 hv => ?_
  split at h1
  · cases hv
    exact ⟨_, rfl, q _ _ _ _ h1 r1 g1⟩
  · exact h1.elim
@[simp] def dCut (φ : DE) (lo hi : S → (Option Int → S → Prop) → Prop) : DE := fun s R => φ s fun d s1 => lo s1 fun l s2 => hi s2 fun u s3 => match d with
  | .tup xs => R (.tup (cutD xs l u)) s3
  | .lst xs => R (.lst (cutD xs l u)) s3
  | _ => False
theorem cut_all {α : Type} (xs : List α) (lo hi : Option Int) (h : HT.sIx xs.length 0 lo = 0 ∧ HT.sIx xs.length xs.length hi = xs.length) : (xs.drop (HT.sIx xs.length 0 lo)).take (HT.sIx xs.length xs.length hi - HT.sIx xs.length 0 lo) = xs := by
  rw [h.1, h.2]
  simp
theorem e_cut {x : Expr} {lo hi : Option Expr} {p2 pos : Pos} {φ : DE} {l u : S → (Option Int → S → Prop) → Prop} (h1 : ED M F x φ) (h2 : EO M F lo l) (h3 : EO M F hi u) : ED M F (.Subscript x (.Slice lo hi none p2) pos) (dCut φ l u) := by
  obtain ⟨t, p, a⟩ := h1
  obtain ⟨tl, pl, b⟩ := h2
  obtain ⟨tu, pu, c⟩ := h3
  refine ⟨tSl (fun x lo hi H Q => rSlA K x lo hi H Q ∨ rSlL K x lo hi H Q) t tl tu, fun j => pe_slice (SlR.or (by have := sl_tupA (X := F.X j); rw [F.hK j] at this; exact this) (by have := sl_list (X := F.X j); rw [F.hK j] at this; exact this)) (p j) (pl j) (pu j), fun s σ G H R Q rel h q => ?_⟩
  refine a s σ G H _ _ rel h fun d s1 v G1 H1 h1 r1 g1 hv => ?_
  refine b s1 σ G1 H1 _ _ r1 h1 fun o s2 G2 H2 h2 r2 g2 => ?_
  refine c s2 σ G2 H2 _ _ r2 h2 fun o2 s3 G3 H3 h3 r3 g3 => ?_
  have gg := g1.tr (g2.tr g3)
  have hv3 := Vd.mono (g2.tr g3).ex hv
  split at h3
  · cases hv3 with
    | @tup pp vs _ hp hvs =>
      refine .inl ⟨pp, vs, rfl, .inl (.inl (r3.ex _ _ hp)), fun z => ?_, fun _ l hl => ?_⟩
      · rw [hvs.len] at z
        unfold cutD at h3
        rw [cut_all _ _ _ z] at h3
        exact q _ _ _ _ _ h3 r3 gg (.tup hp hvs)
      · exact q _ _ _ _ _ h3 (r3.new hl) (gg.tr (.new r3 hl)) (.tup upd_at (Vds.mono (ex_new (ex_none r3.ex hl)) (hvs.cut _ _)))
  · cases hv3 with
    | @lst pp vs _ hp hvs =>
      exact .inr ⟨pp, vs, rfl, .inl (.inl (r3.ex _ _ hp)), fun l hl => q _ _ _ _ _ h3 (r3.new hl) (gg.tr (.new r3 hl)) (.lst upd_at (Vds.mono (ex_new (ex_none r3.ex hl)) (hvs.cut _ _)))⟩
  · exact h3.elim
/-! ### loops over a list or a tuple -/
@[simp] def dSeq2 (φ : DE) : DA := fun s R => φ s fun d s1 => match d with
  | .lst ds => R ds s1
  | .tup ds => R ds s1
  | _ => False
/-- what is to be walked: a list or a tuple, which one is seen when it stands -/
def iSeq2 (K : PySem.W.Frag) (te : TE) : TI := fun σ H R => te σ H fun x H1 => ∃ a, x = .ref a ∧ ((∃ xs, SqL K H1 a xs) ∧ R (Itl K a) H1 ∨ (∃ xs, SqT K H1 a xs) ∧ R (Itt K a) H1)
theorem pi_seq2 {X : Cx} {tg l : Expr} {te : TE} (he : PE X l te) : PI X tg l (iSeq2 X.K te) := by
  constructor
  intro pins s σ H R I h
  refine thn (he.run pins s σ H _ I h) fun v s1 ⟨x, H1, I1, r1, a, e, z⟩ => ?_
  subst e
  cases r1
  have out : ∀ b ∈ [s1.heap.objs.size], b = s1.heap.objs.size := fun b hb => List.mem_singleton.mp hb
  have fp := I1.fpOk (Nat.le_refl _) (I1.hok.fresh (Nat.le_refl _))
  rcases z with ⟨⟨xs, hq⟩, q⟩ | ⟨⟨xs, hq⟩, q⟩
  · obtain ⟨its, rv, p, hz⟩ := I1.list hq
    apply wpAny_pyIter_list p.isList
    exact ⟨s1.heap.objs.size, [s1.heap.objs.size], _, _, H1, rfl, I1.kept (t' := s1.toks) fun b o e => Heap.get?_push_of_some _ e, turn_list a _, ⟨_, Heap.get?_push_size _ rfl, rfl, rfl⟩, fun b hb => by rw [out b hb]; exact fp, q⟩
  · obtain ⟨its, rv, p, hz⟩ := I1.tuple hq
    apply wpAny_pyIter_tuple (show s1.heap.IsTuple a its.toArray from p)
    exact ⟨s1.heap.objs.size, [s1.heap.objs.size], _, _, H1, rfl, I1.kept (t' := s1.toks) fun b o e => Heap.get?_push_of_some _ e, turn_tuple a _, ⟨_, Heap.get?_push_size _ rfl, rfl, rfl⟩, fun b hb => by rw [out b hb]; exact fp, q⟩
theorem id_seq2 {tg e : Expr} {φ : DE} (h : ED M F e φ) : ID M F tg e (dSeq2 φ) := by
  obtain ⟨t, p, a⟩ := h
  refine ⟨iSeq2 K t, fun j => by have := pi_seq2 (tg := tg) (p j); rw [F.hK j] at this; exact this, fun s σ G H R Q rel h q => ?_⟩
  refine a s σ G H _ _ rel h fun d s1 v G1 H1 h1 r1 g1 hv => ?_
  split at h1
  · cases hv with
    | @lst x vs ds hx hvs => exact ⟨x, rfl, .inl ⟨⟨vs, .inl (.inl (r1.ex _ _ hx))⟩, q _ _ _ _ _ h1 r1 g1 (over_list hx hvs)⟩⟩
  · cases hv with
    | @tup x vs ds hx hvs => exact ⟨x, rfl, .inr ⟨⟨vs, .inl (.inl (r1.ex _ _ hx))⟩, q _ _ _ _ _ h1 r1 g1 (over_tup hx hvs)⟩⟩
  · exact h1.elim
/-! ### builtins -/
@[simp] def cAbs : List D → (D → Prop) → Prop := fun ds R => match ds with
  | [.int i] => R (.int (if i < 0 then -i else i))
  | _ => False
theorem c_abs : CSound (fun xs H Q => ∃ i, xs = [.int i] ∧ Q (.int (if i < 0 then -i else i)) H) cAbs := by
  intro G H xs ds R Q e hv h q _
  unfold cAbs at h
  split at h
  · cases hv with
    | cons a t =>
      cases t
      cases a
      exact ⟨_, rfl, q _ _ h (.int _)⟩
  · exact h.elim
@[simp] def cMin2 : List D → (D → Prop) → Prop := fun ds R => match ds with
  | [.int i, .int j] => R (.int (if j < i then j else i))
  | _ => False
@[simp] def cMax2 : List D → (D → Prop) → Prop := fun ds R => match ds with
  | [.int i, .int j] => R (.int (if j > i then j else i))
  | _ => False
theorem c_min2 : CSound (fun xs H Q => ∃ i j, xs = [.int i, .int j] ∧ Q (.int (if j < i then j else i)) H) cMin2 := by
  intro G H xs ds R Q e hv h q _
  unfold cMin2 at h
  split at h
  · cases hv with
    | cons a t =>
      cases t with
      | cons b t =>
        cases t
        cases a
        cases b
        exact ⟨_, _, rfl, q _ _ h (.int _)⟩
  · exact h.elim
theorem c_max2 : CSound (fun xs H Q => ∃ i j, xs = [.int i, .int j] ∧ Q (.int (if j > i then j else i)) H) cMax2 := by
  intro G H xs ds R Q e hv h q _
  unfold cMax2 at h
  split at h
  · cases hv with
    | cons a t =>
      cases t with
      | cons b t =>
        cases t
        cases a
        cases b
        exact ⟨_, _, rfl, q _ _ h (.int _)⟩
  · exact h.elim
/-- max, min of a list of ints -/
@[simp] def cMaxL : List D → (D → Prop) → Prop := fun ds R => match ds with
  | [.lst xs] => ∃ ns, intsD xs = some ns ∧ 0 < ns.length ∧ ∀ m, m ∈ ns → (∀ y, y ∈ ns → y ≤ m) → R (.int m)
  | _ => False
theorem c_maxL : CSound (rMax K) cMaxL := by
  intro G H xs ds R Q e hv h q _
  unfold cMaxL at h
  split at h
  · obtain ⟨ns, h1, h2, h3⟩ := h
    cases hv with
    | cons a t =>
      cases t
      cases a with
      | @lst p vs _ hp hv => exact ⟨p, ns, rfl, .inl (.inl (by rw [← ints_v hv h1]; exact e _ _ hp)), h2, fun m m1 m2 => q _ _ (h3 m m1 m2) (.int _)⟩
  · exact h.elim
theorem boot_abs : bootBuiltins "abs" = some (.builtin "abs") := by decide +kernel
theorem boot_min : bootBuiltins "min" = some (.builtin "min") := by decide +kernel
theorem boot_max : bootBuiltins "max" = some (.builtin "max") := by decide +kernel
theorem boot_sorted : bootBuiltins "sorted" = some (.builtin "sorted") := by decide +kernel
theorem boot_repr : bootBuiltins "repr" = some (.builtin "repr") := by decide +kernel
theorem e_abs {p pos : Pos} {a : Expr} {ψ : DA} (hm : mg "abs" = none) (ha : EA M F [a] ψ) (hg : ∀ j, Gl (F.X j) "abs") (he : ∀ j, starEach [a] (F.X j).env = (false, eval a (F.X j).env) :: starEach [] (F.X j).env := by intro _; rfl) (hpl : ∀ j, (backTo pos (starEach [] (F.X j).env)).any (·.1) = false := by intro _; rfl) :
    ED M F (.Call (.Name "abs" p) [a] [] pos) (dCB cAbs ψ) := e_callB (fun j => call_abs) c_abs hm boot_abs ha hg (by decide) (by decide) he hpl
theorem e_min2 {p pos : Pos} {a b : Expr} {ψ : DA} (hm : mg "min" = none) (ha : EA M F [a, b] ψ) (hg : ∀ j, Gl (F.X j) "min") (he : ∀ j, starEach [a, b] (F.X j).env = (false, eval a (F.X j).env) :: starEach [b] (F.X j).env := by intro _; rfl) (hpl : ∀ j, (backTo pos (starEach [b] (F.X j).env)).any (·.1) = false := by intro _; rfl) :
    ED M F (.Call (.Name "min" p) [a, b] [] pos) (dCB cMin2 ψ) := e_callB (fun j => call_min2 (F.hc j)) c_min2 hm boot_min ha hg (by decide) (by decide) he hpl
theorem e_max2 {p pos : Pos} {a b : Expr} {ψ : DA} (hm : mg "max" = none) (ha : EA M F [a, b] ψ) (hg : ∀ j, Gl (F.X j) "max") (he : ∀ j, starEach [a, b] (F.X j).env = (false, eval a (F.X j).env) :: starEach [b] (F.X j).env := by intro _; rfl) (hpl : ∀ j, (backTo pos (starEach [b] (F.X j).env)).any (·.1) = false := by intro _; rfl) :
    ED M F (.Call (.Name "max" p) [a, b] [] pos) (dCB cMax2 ψ) := e_callB (fun j => call_max2 (F.hc j)) c_max2 hm boot_max ha hg (by decide) (by decide) he hpl
theorem e_maxL {p pos : Pos} {a : Expr} {ψ : DA} (hm : mg "max" = none) (ha : EA M F [a] ψ) (hg : ∀ j, Gl (F.X j) "max") (he : ∀ j, starEach [a] (F.X j).env = (false, eval a (F.X j).env) :: starEach [] (F.X j).env := by intro _; rfl) (hpl : ∀ j, (backTo pos (starEach [] (F.X j).env)).any (·.1) = false := by intro _; rfl) :
    ED M F (.Call (.Name "max" p) [a] [] pos) (dCB cMaxL ψ) := e_callB (fun j => by have := cr_max (X := F.X j) (F.hc j); rw [F.hK j] at this; exact this) c_maxL hm boot_max ha hg (by decide) (by decide) he hpl
/-- x.bit_length() -/
@[simp] def dBits (φ : DE) : DE := fun s R => φ s fun d s1 => match d with
  | .int i => R (.int (Builtin.Int.intBits i : Nat)) s1
  | _ => False
theorem e_bits {o : Expr} {apos pos : Pos} {φ : DE} (h : ED M F o φ) (hb : ∀ j, attributeBase o "bit_length" (F.X j).env (eval o (F.X j).env) = eval o (F.X j).env := by intro _; rfl) (hl : (apos.endLine == pos.line) = true := by rfl) : ED M F (.Call (.Attribute o "bit_length" apos) [] [] pos) (dBits φ) := by
  obtain ⟨t, p, a⟩ := h
  refine ⟨_, fun j => pe_bits (p j) (hb j) hl, fun s σ G H R Q rel h q => ?_⟩
  refine a s σ G H _ _ rel h fun d s1 v G1 H1 h1 r1 g1 hv => ?_
  split at h1
  · cases hv
    exact ⟨_, rfl, q _ _ _ _ _ h1 r1 g1 (.int _)⟩
  · exact h1.elim
end
end DL
/-! set(list of ints), sorted(set(..)) -/
namespace SetL
open PySem PySem.Spec PyProof.Rows L2
section
variable {P : Program} {w : World} {A : Around} {E : Value → Shared → Prop} {s : Shared}
/-- the new set, still empty -/
abbrev emp (w : World) : Obj := { cls := .type "set", dict := none, data := .set #[] 0 (.fresh 0 0 (!w.params.followText "set-order")) }
theorem int_at {items : Array Value} {ns : List Int} (hz : items.size = ns.length) (hit : IntsAre items.toList ns) (i : Nat) (v : Value) (hv : items[i]? = some v) : ∃ k t, ns[i]? = some k ∧ v = .int k t := by
  have hi : i < ns.length := hz ▸ (Array.getElem?_eq_some_iff.mp hv).1
  obtain ⟨t, e⟩ := PyProof.Rows.IntsAre.int_at hit i v ((Array.getElem?_toList ..).trans hv)
  rw [List.getD_eq_getElem?_getD, List.getElem?_eq_getElem hi] at e
  exact ⟨ns[i], t, List.getElem?_eq_getElem hi, e⟩
/-- set.__init__ of the new set, from a list -/
theorem init_list {l : Addr} {items : Array Value} {ns : List Int} {Q : Value → Shared → Prop} (hh : A.handled = none) (hl : s.heap.IsList l items) (hit : IntsAre items.toList ns) (hb : ns.length + 1 < scanBound)
    (h : ∀ (h' : Heap) (tk c : Nat), SetR w h' s.heap.objs.size (fun j => decide (j ∈ ns)) c → c ≤ ns.length → (∀ b o, s.heap.get? b = some o → h'.get? b = some o) → Q .none { s with heap := h', toks := tk }) :
    codeAny (model P w) A (.call (.builtin "set.__init__") ⟨[.ref s.heap.objs.size, .ref l], []⟩) (wants Q E) { s with heap := s.heap.push (emp w) } := by
  have hz : items.size = ns.length := (Array.length_toList ..).symm.trans (IntsAre.length hit)
  obtain ⟨S, eS⟩ : ∃ S, S = s.heap.objs.size := ⟨_, rfl⟩
  have at_ : (s.heap.push (emp w)).get? S = some (emp w) := by rw [eS]; exact Heap.get?_push_size _ rfl
  have sz : (s.heap.push (emp w)).objs.size = S + 1 := by rw [eS]; exact Heap.size_push ..
  rw [← eS] at h ⊢
  refine codeAny_call_builtin F.called_set.init.plain F.entry_set_init (check_set_init_1 ⟨_, at_, rfl⟩ ?_)
  obtain ⟨⟨cl, di, da, slo⟩, hol, hcl, nl, hda⟩ := hl
  have hcl : cl = .type "list" := hcl
  have hda : da = .seq items nl := hda
  subst hcl hda
  have lS : l < S := by rw [eS]; exact Heap.lt_size hol
  have hol' := Heap.get?_push_of_some (emp w) hol
  have hL : (s.heap.push (emp w)).IsList l items := ⟨_, hol', rfl, nl, rfl⟩
  have ne1 := F.sub_list_set
  have ne2 := F.sub_list_frozenset
  have ne3 : (Value.type "list" == Value.type "dict") = false := by decide
  unfold Builtin.«set.__init__» noKeywords Builtin.Frozenset.updateFrom
  generalize eP : pyIter = py
  wp_walk
  subst eP
  apply wpAny_pyIter_list hL
  apply wpAny_bind
  apply wpAny_runValue
  have out : l ≠ (s.heap.push (emp w)).objs.size := by
    rw [sz]
    exact Nat.ne_of_lt (Nat.lt_succ_of_lt lS)
  have noS : S ∉ [(s.heap.push (emp w)).objs.size, l] := by
    rw [sz]
    simp only [List.mem_cons, List.not_mem_nil, or_false, not_or]
    exact ⟨Nat.ne_of_lt (Nat.lt_succ_self _), Nat.ne_of_gt lS⟩
  refine set_update_ints ((Walks.list (by simp [hh]) _ l out items).toS) S noS ns hz hb (int_at hz hit) (items.size - 0) 0 _ (by omega) (Nat.zero_le _) ⟨⟨_, Heap.get?_push_size _ rfl, rfl, rfl⟩, hL.push _⟩ ⟨0, Nat.le_refl 0, setR_new_at (Heap.get?_push_of_some _ at_)⟩ ?_
  rintro ⟨h', g2, d', tk', os'⟩ c' hm hc' hS'
  obtain rfl : g2 = s.gens := hm.gens
  obtain rfl : d' = s.drawn := hm.drawn
  obtain rfl : os' = s.os := hm.os
  show wpAny _ _ _ _ _ _
  apply wpAny_pure
  show wpAny _ _ (ret Value.none) _ _ _
  rw [hz] at hc'
  apply wpAny_pure
  refine h h' tk' c' hS' hc' fun b o e => ?_
  have lb : b < S := by rw [eS]; exact Heap.lt_size e
  refine hm.heap b o ?_ (Heap.get?_push_of_some _ (Heap.get?_push_of_some _ e))
  rw [sz]
  simp only [List.mem_cons, List.not_mem_nil, or_false, not_or]
  exact ⟨Nat.ne_of_lt lb, Nat.ne_of_lt (Nat.lt_succ_of_lt lb)⟩
/-- set(l), l a list of ints -/
theorem set_of_list {l : Addr} {items : Array Value} {ns : List Int} {Q : Value → Shared → Prop} (hh : A.handled = none) (hl : s.heap.IsList l items) (hit : IntsAre items.toList ns) (hb : ns.length + 1 < scanBound)
    (h : ∀ (h' : Heap) (tk c : Nat), SetR w h' s.heap.objs.size (fun j => decide (j ∈ ns)) c → c ≤ ns.length → (∀ b o, s.heap.get? b = some o → h'.get? b = some o) → Q (.ref s.heap.objs.size) { s with heap := h', toks := tk }) :
    wpAny (model P w) A (call (.type "set") [.ref l]) Q E s := by
  obtain ⟨c, tl, mro⟩ := F.called_set.mro
  have made := F.called_set.made
  have sub := F.called_set.sub
  apply wpAny_call
  apply codeAny_of_tree
  show wpAny _ _ (callAny (.type "set") _) _ _ _
  apply wpAny_pure
  refine ⟨Code.quiet_builtin _ (by decide +kernel), codeAny_builtin F.entry_type_call ?_⟩
  rw [Around.under_plain (weight_type_call_type "set" [.ref l] []) rfl]
  have k1 := F.called_set.notType
  have k2 := F.called_set.canCreate
  have k3 := F.typeCall_set_1 (.ref l)
  repeat any_goals first | assumption | wp_step
  refine codeAny_mono (code_set_led1 (.ref l) (E := E) (Q₁ := fun o s₁ => o = .ref s.heap.objs.size ∧ s₁ = { s with heap := s.heap.push (emp w) }) ⟨rfl, rfl⟩) ?_
  intro r s₁ hr
  match r, hr with
  | .error e, hr => exact hr
  | .ok .next, hr => exact hr.elim
  | .ok .brk, hr => exact hr.elim
  | .ok .cont, hr => exact hr.elim
  | .ok (.ret _), ⟨e1, e2⟩ =>
    subst e1 e2
    have ty : Shared.TypeIs { s with heap := s.heap.push (emp w) } (.ref s.heap.objs.size) "set" := ⟨_, Heap.get?_push_size _ rfl, rfl⟩
    have li := F.called_set.init.lookup
    have bi := F.called_set.init.bind (.ref s.heap.objs.size)
    repeat any_goals first | assumption | wp_step
    refine codeAny_mono (init_list (E := E) (Q := fun v s₂ => v = .none ∧ Q (.ref s.heap.objs.size) s₂) (A := _) (by simp [hh]) hl hit hb fun h' tk c a b d => ⟨rfl, h h' tk c a b d⟩) ?_
    intro r₂ s₂ hr₂
    match r₂, hr₂ with
    | .error e, hr₂ => exact hr₂
    | .ok .next, hr₂ => exact hr₂.elim
    | .ok .brk, hr₂ => exact hr₂.elim
    | .ok .cont, hr₂ => exact hr₂.elim
    | .ok (.ret _), ⟨e3, hq⟩ =>
      subst e3
      repeat any_goals first | assumption | wp_step
end
section
variable {X : Cx}
def rSetL (K : PySem.W.Frag) (w : World) : List V → Hp → VK → Prop := fun xs H Q => ∃ (l : Addr) (ns : List Int), xs = [.ref l] ∧ SqL K H l (ns.map V.int) ∧ ns.length ≤ 1000 ∧ ∀ p c, H p = none → c ≤ ns.length → Q (.ref p) (upd H p (SetO w p (fun j => decide (j ∈ ns)) c))
theorem cr_setL (hc : X.calm = true) : CallR X (.type "set") (rSetL X.K X.w) := by
  intro pins s σ H xs us Q I r h
  obtain ⟨l, ns, rfl, hq, hl, q⟩ := h
  obtain ⟨u, rfl, ru⟩ := r.one
  cases ru
  obtain ⟨its, rv, pl, hz⟩ := I.list hq
  refine set_of_list (I.ok.hd hc) pl.isList (ns := ns) (by simpa using ints_of_vals rv) (by unfold scanBound; omega) fun h' tk c hS hc' hk => ?_
  have nf : H s.heap.objs.size = none := I.hok.fresh (Nat.le_refl _)
  exact ⟨.ref s.heap.objs.size, _, I.laid (t' := tk) hk (Nat.le_refl _) (setO_new hS), rfl, q _ c nf hc'⟩
end
end SetL
/-! lists and dicts of one's own: looked at, written; sorted -/
namespace DL
open PySem PySem.Spec PyProof.Rows L2
@[simp] def isL (s : S) (i : Nat) : Prop := match s.sl[i]? with
  | some (.own (.l _)) => True
  | _ => False
@[simp] def isK (s : S) (i : Nat) : Prop := match s.sl[i]? with
  | some (.own (.k _)) => True
  | _ => False
section
variable {P : Program} {w : World} {K : PySem.W.Frag} {mg : Str → Option Value} {base : Heap} {k : Nat} {M : Cm} {F : Fam P w K mg base k}
theorem isL_at {s : S} {i : Nat} (h : isL s i) : ∃ ds, s.sl[i]? = some (.own (.l ds)) := by
  unfold isL at h
  split at h
  · exact ⟨_, by assumption⟩
  · exact h.elim
theorem isK_at {s : S} {i : Nat} (h : isK s i) : ∃ ds, s.sl[i]? = some (.own (.k ds)) := by
  unfold isK at h
  split at h
  · exact ⟨_, by assumption⟩
  · exact h.elim
/-! ### x[n], x[n] = e -/
@[simp] def dIxO (i : Nat) (φ : DE) : DE := fun s R => isL s i ∧ φ s fun d s1 => match d, s1.sl[i]? with
  | .int n, some (.own (.l ds)) => ∃ y, atI ds n = some y ∧ R y s1
  | _, _ => False
theorem e_ixO (i : Nat) {x y : Expr} {pos} {φ : DE} (hv : ∀ j, PE (F.X j) x (tVar i)) (h2 : ED M F y φ) (hs : PlainIx y := by intro _ _; rfl) : ED M F (.Subscript x y pos) (dIxO i φ) := by
  obtain ⟨u, p2, b⟩ := h2
  refine ⟨_, fun j => by have := pe_ix (pos := pos) (ix_list (X := F.X j)) (hv j) (p2 j) hs; rw [F.hK j] at this; exact this, fun s σ G H R Q rel h q => ?_⟩
  obtain ⟨h0, h⟩ := h
  obtain ⟨ds0, hi0⟩ := isL_at h0
  obtain ⟨a, vs0, x1, x2, x3, _⟩ := rel.getL hi0
  refine ⟨_, x1, ?_⟩
  refine b s σ G H _ _ rel h fun d s1 v G1 H1 h1 r1 g1 hv => ?_
  split at h1
  · rename_i n ds hi
    obtain ⟨y, hy, hR⟩ := h1
    cases hv
    obtain ⟨a', vs, y1, y2, y3, _⟩ := r1.getL hi
    rw [x1] at y1
    cases y1
    obtain ⟨v, e1, e2⟩ := vds_atI y3 hy
    exact ⟨a, vs, n, v, rfl, rfl, .inl (.inl y2), e1, q _ _ _ _ _ hR r1 g1 e2⟩
  · exact h1.elim
theorem Vds.set {G : Hp} {d : D} {v : V} (hv : Vd G v d) : ∀ {ds : List D} {vs : List V}, Vds G vs ds → ∀ n : Nat, Vds G (vs.set n v) (ds.set n d)
  | _, _, .nil, _ => .nil
  | _, _, .cons h t, 0 => .cons hv t
  | _, _, .cons h t, n + 1 => .cons h (Vds.set hv t n)
@[simp] def dSetO (i : Nat) (φi φv : DE) : DS := fun s E => φv s fun d s1 => isL s1 i ∧ φi s1 fun n s2 => match n, s2.sl[i]? with
  | .int n, some (.own (.l ds)) => ∃ j, ixN ds.length n = some j ∧ E.nx (s2.set i (.own (.l (ds.set j d))))
  | _, _ => False
theorem s_setO (i : Nat) {x y e : Expr} {tpos pos : Pos} {φi φv : DE} (hv : ∀ j, PE (F.X j) x (tVar i)) (hi : ED M F y φi) (he : ED M F e φv) (hs : ∀ j, swapsWithSole [.Subscript x y tpos] e pos.line (F.X j).env = pure false := by intro _; rfl) (hw : ∀ j, swappedStores [.Subscript x y tpos] e (F.X j).env = pure none := by intro _; rfl) (h1 : ∀ j, (assignEach [.Subscript x y tpos] (F.X j).env).map (·.2) = [assign (.Subscript x y tpos) (F.X j).env] := by intro _; rfl)
    (ha : ∀ j v, assign (.Subscript x y tpos) (F.X j).env v = (do
      let ov ← holding [v] (eval x (F.X j).env)
      let iv ← holding [v, ov] (eval y (F.X j).env)
      standAt tpos
      holding [v, ov, iv] (setItem ov iv v)
      release [v, ov, iv] []) := by intro _ _; rfl) : SD M F (.Assign [.Subscript x y tpos] e pos) (dSetO i φi φv) := by
  obtain ⟨t, p, a⟩ := he
  obtain ⟨u, p2, b⟩ := hi
  refine ⟨_, fun j => ps_asg (p j) (pg_sub (hv j) (p2 j) set_list (ha j)) (hs j) (hw j) (h1 := h1 j), fun s σ G H E Dn rel h en => ?_⟩
  refine a s σ G H _ _ rel h fun d s1 v G1 H1 h1 r1 g1 hv => ?_
  obtain ⟨h0, h1⟩ := h1
  obtain ⟨ds0, hi0⟩ := isL_at h0
  obtain ⟨ad, vs0, x1, x2, x3, _⟩ := r1.getL hi0
  refine ⟨_, x1, ?_⟩
  refine b s1 σ G1 H1 _ _ r1 h1 fun n s2 iv G2 H2 h2 r2 g2 hiv => ?_
  split at h2
  · rename_i n ds hi
    obtain ⟨j, hj, h2⟩ := h2
    cases hiv
    obtain ⟨a', vs, y1, y2, y3, _⟩ := r2.getL hi
    rw [x1] at y1
    cases y1
    exact ⟨ad, vs, n, j, rfl, rfl, y2, by rw [y3.len]; exact hj, en.nx _ _ G2 _ h2 (r2.put hi x1 (es := .l (ds.set j d)) ⟨_, rfl, Vds.set (Vd.mono g2.ex hv) y3 j⟩) (g1.ex.tr g2.ex)⟩
  · exact h2.elim
/-! ### dicts -/
@[simp] def keyD : D → Option Key
  | .int i => some (.inl i)
  | .str x => some (.inr x)
  | _ => none
def valD (kd : List (Key × D)) (k : Key) : Option D := (kd.find? fun p => decide (p.1 = k)).map (·.2)
def putD (kd : List (Key × D)) (k : Key) (d : D) : List (Key × D) := if (kd.any fun p => decide (p.1 = k)) = true then kd.map (fun p => if p.1 = k then (p.1, d) else p) else kd ++ [(k, d)]
theorem key_v {G : Hp} {v : V} {d : D} {key : Key} (h : Vd G v d) (e : keyD d = some key) : v = kV key := by
  cases d <;> cases e <;> cases h <;> rfl
theorem Kvs.val {G : Hp} {key : Key} : ∀ {kd : List (Key × D)} {kvs : List (Key × V)}, Kvs G kvs kd → (valD kd key = none ∧ valV kvs key = none) ∨ ∃ d v, valD kd key = some d ∧ valV kvs key = some v ∧ Vd G v d
  | _, _, .nil => .inl ⟨rfl, rfl⟩
  | _, _, .cons (k := k) (v := v) (d := d) h t => by
    have ih := Kvs.val (key := key) t
    unfold valD valV at ih ⊢
    by_cases e : k = key
    · exact .inr ⟨d, v, by simp [e], by simp [e], h⟩
    · simpa [e] using ih
theorem Kvs.len {G : Hp} : ∀ {kd : List (Key × D)} {kvs : List (Key × V)}, Kvs G kvs kd → kvs.length = kd.length
  | _, _, .nil => rfl
  | _, _, .cons _ t => congrArg Nat.succ t.len
theorem Kvs.any {G : Hp} {key : Key} : ∀ {kd : List (Key × D)} {kvs : List (Key × V)}, Kvs G kvs kd → (kvs.any fun p => decide (p.1 = key)) = kd.any fun p => decide (p.1 = key)
  | _, _, .nil => rfl
  | _, _, .cons _ t => by rw [List.any_cons, List.any_cons, t.any]
theorem Kvs.app {G : Hp} {key : Key} {v : V} {d : D} (hv : Vd G v d) : ∀ {kd : List (Key × D)} {kvs : List (Key × V)}, Kvs G kvs kd → Kvs G (kvs ++ [(key, v)]) (kd ++ [(key, d)])
  | _, _, .nil => .cons hv .nil
  | _, _, .cons h t => .cons h (t.app hv)
theorem Kvs.map {G : Hp} {key : Key} {v : V} {d : D} (hv : Vd G v d) : ∀ {kd : List (Key × D)} {kvs : List (Key × V)}, Kvs G kvs kd → Kvs G (kvs.map fun p => if p.1 = key then (p.1, v) else p) (kd.map fun p => if p.1 = key then (p.1, d) else p)
  | _, _, .nil => .nil
  | _, _, .cons (k := k) h t => by
    rw [List.map_cons, List.map_cons]
    by_cases e : k = key
    · rw [if_pos e, if_pos e]
      exact .cons hv (t.map hv)
    · rw [if_neg e, if_neg e]
      exact .cons h (t.map hv)
theorem Kvs.put {G : Hp} {key : Key} {v : V} {d : D} {kd : List (Key × D)} {kvs : List (Key × V)} (h : Kvs G kvs kd) (hv : Vd G v d) : Kvs G (putK kvs key v) (putD kd key d) := by
  unfold putK putD
  rw [h.any]
  split
  · exact h.map hv
  · exact h.app hv
@[simp] def dDGet (i : Nat) (φ : DE) : DE := fun s R => isK s i ∧ φ s fun d s1 => match keyD d, s1.sl[i]? with
  | some key, some (.own (.k kd)) => ∃ y, valD kd key = some y ∧ R y s1
  | _, _ => False
theorem e_dgetO (i : Nat) {x y : Expr} {pos} {φ : DE} (hv : ∀ j, PE (F.X j) x (tVar i)) (h2 : ED M F y φ) (hs : NoSl y := by intro _ _; rfl) : ED M F (.Subscript x y pos) (dDGet i φ) := by
  obtain ⟨u, p2, b⟩ := h2
  refine ⟨_, fun j => pe_dget (by have := (F.hr j).un; omega) (hv j) (p2 j) hs, fun s σ G H R Q rel h q => ?_⟩
  obtain ⟨h0, h⟩ := h
  obtain ⟨ds0, hi0⟩ := isK_at h0
  obtain ⟨a, vs0, x1, x2, x3, _⟩ := rel.getK hi0
  refine ⟨_, x1, ?_⟩
  refine b s σ G H _ _ rel h fun d s1 v G1 H1 h1 r1 g1 hv => ?_
  split at h1
  · rename_i key kd hk hi
    obtain ⟨y, hy, hR⟩ := h1
    obtain ⟨a', kvs, y1, y2, y3, _⟩ := r1.getK hi
    rw [x1] at y1
    cases y1
    rcases y3.val (key := key) with ⟨z, _⟩ | ⟨d', v', z1, z2, z3⟩
    · rw [hy] at z; cases z
    · rw [hy] at z1
      cases z1
      refine ⟨a, v', rfl, .inl ⟨kvs, key, .inl y2, key_v hv hk, z2.symm⟩, q _ _ _ _ _ hR r1 g1 z3⟩
  · exact h1.elim
@[simp] def tDInO (n : Bool) (i : Nat) (φ : DE) : DT := fun s R => φ s fun d s1 => match keyD d, s1.sl[i]? with
  | some key, some (.own (.k kd)) => R (n != (valD kd key).isSome) s1
  | _, _ => False
theorem t_dinO (i : Nat) {x y : Expr} {pos} {φ : DE} (hv : ∀ j, PE (F.X j) x (tVar i)) (h2 : ED M F y φ) (hm : behindInMarks .In x = false := by rfl) : ET M F (.Compare y [.In] [x] pos) (tDInO false i φ) := by
  obtain ⟨u, p2, b⟩ := h2
  refine ⟨_, fun j => pt_cmp (pc_din (by have := (F.hr j).un; omega) (p2 j) (hv j)) hm, fun s σ G H R Q rel h q => ?_⟩
  refine b s σ G H _ _ rel h fun d s1 v G1 H1 h1 r1 g1 hv => ?_
  split at h1
  · rename_i key kd hk hi
    obtain ⟨a', kvs, y1, y2, y3, _⟩ := r1.getK hi
    refine ⟨_, y1, a', valV kvs key, rfl, .inl ⟨kvs, key, .inl y2, key_v hv hk, rfl⟩, _, rfl, ?_⟩
    have e : (valV kvs key).isSome = (valD kd key).isSome := by
      rcases y3.val (key := key) with ⟨z, z'⟩ | ⟨d', v', z1, z2, z3⟩
      · rw [z, z']; rfl
      · rw [z1, z2]; rfl
    rw [e]
    exact q _ _ _ _ (by simpa using h1) r1 g1
  · exact h1.elim
theorem t_dnotinO (i : Nat) {x y : Expr} {pos} {φ : DE} (hv : ∀ j, PE (F.X j) x (tVar i)) (h2 : ED M F y φ) (hm : behindInMarks .NotIn x = false := by rfl) : ET M F (.Compare y [.NotIn] [x] pos) (tDInO true i φ) := by
  obtain ⟨u, p2, b⟩ := h2
  refine ⟨_, fun j => pt_cmp (pc_dnotin (by have := (F.hr j).un; omega) (p2 j) (hv j)) hm, fun s σ G H R Q rel h q => ?_⟩
  refine b s σ G H _ _ rel h fun d s1 v G1 H1 h1 r1 g1 hv => ?_
  split at h1
  · rename_i key kd hk hi
    obtain ⟨a', kvs, y1, y2, y3, _⟩ := r1.getK hi
    refine ⟨_, y1, a', valV kvs key, rfl, .inl ⟨kvs, key, .inl y2, key_v hv hk, rfl⟩, _, rfl, ?_⟩
    have e : (valV kvs key).isSome = (valD kd key).isSome := by
      rcases y3.val (key := key) with ⟨z, z'⟩ | ⟨d', v', z1, z2, z3⟩
      · rw [z, z']; rfl
      · rw [z1, z2]; rfl
    rw [e]
    exact q _ _ _ _ (by simpa using h1) r1 g1
  · exact h1.elim
@[simp] def dDPut (i : Nat) (φi φv : DE) : DS := fun s E => φv s fun d s1 => isK s1 i ∧ φi s1 fun n s2 => match keyD n, s2.sl[i]? with
  | some key, some (.own (.k kd)) => kd.length < 10000 ∧ E.nx (s2.set i (.own (.k (putD kd key d))))
  | _, _ => False
theorem s_dputO (i : Nat) {x y e : Expr} {tpos pos : Pos} {φi φv : DE} (hv : ∀ j, PE (F.X j) x (tVar i)) (hi : ED M F y φi) (he : ED M F e φv) (hs : ∀ j, swapsWith e (some (.Subscript x y tpos)) pos.line (F.X j).env = pure false := by intro _; rfl) : SD M F (.Assign [.Subscript x y tpos] e pos) (dDPut i φi φv) := by
  obtain ⟨t, p, a⟩ := he
  obtain ⟨u, p2, b⟩ := hi
  refine ⟨_, fun j => ps_dput (by have := (F.hr j).un; omega) (hv j) (p2 j) (p j) (hs j), fun s σ G H E Dn rel h en => ?_⟩
  refine a s σ G H _ _ rel h fun d s1 v G1 H1 h1 r1 g1 hv => ?_
  obtain ⟨h0, h1⟩ := h1
  obtain ⟨ds0, hi0⟩ := isK_at h0
  obtain ⟨ad, vs0, x1, x2, x3, _⟩ := r1.getK hi0
  refine ⟨_, x1, ?_⟩
  refine b s1 σ G1 H1 _ _ r1 h1 fun n s2 iv G2 H2 h2 r2 g2 hiv => ?_
  split at h2
  · rename_i key kd hk hi
    obtain ⟨h3, h2⟩ := h2
    obtain ⟨a', kvs, y1, y2, y3, _⟩ := r2.getK hi
    rw [x1] at y1
    cases y1
    exact ⟨ad, _, rfl, .inl ⟨kvs, key, y2, key_v hiv hk, by rw [y3.len, sizeLine_eq]; omega, rfl⟩, en.nx _ _ G2 _ h2 (r2.put hi x1 (es := .k (putD kd key d)) ⟨_, rfl, y3.put (Vd.mono g2.ex hv)⟩) (g1.ex.tr g2.ex)⟩
  · exact h2.elim
/-- {i: e}, a new dict -/
@[simp] def pK1 (i : Int) (φ : DE) : DP := fun s R => φ s fun d s1 => R (.own (.k [(.inl i, d)])) s1
theorem p_dict1 {i : Int} {e : Expr} {j0 : Nat} {kp pos : Pos} {φ : DE} (h : ED M F e φ) : EP M F (.Dict [some (.Constant (.int i) j0 kp)] [e] pos) (pK1 i φ) := by
  obtain ⟨t, p, a⟩ := h
  refine ⟨_, fun j => pe_disp (pps_cons pe_int (p j) pps_nil) rfl rfl (by simp) (by simp), fun s σ G H R Q rel h q => ?_⟩
  intro pp hp
  refine a s σ G _ _ _ (rel.lay hp) h fun d s1 v G1 H1 h1 r1 g1 hv => ?_
  obtain ⟨f1, f2, f3, f4⟩ := rel.fresh hp
  have old := g1.old pp (by rw [upd_at]; exact fun z => nomatch z) ⟨f3.fr, fun l es hl => f4 l es hl⟩
  have atp : H1 pp = some (.dK []) := old.1.trans upd_at
  have gp : G1 pp = none := old.2.trans f1
  refine ⟨atp, [(.inl i, v)], rfl, by simp, ?_⟩
  have e : mergeK [] [((.inl i : Key), v)] = [(.inl i, v)] := by simp [mergeK, putK]
  rw [e]
  have f4' : ∀ (l : Nat) (es : OD), s1.sl[l]? = some (.own es) → σ[l]? ≠ some (some (.ref pp)) := fun l es hl => by
    obtain ⟨es', hl'⟩ := (g1.own l).mp ⟨es, hl⟩
    exact f4 l es' hl'
  have r2 : Rel M s1 σ G1 (upd H1 pp (.dK [(.inl i, v)])) := by
    refine ⟨ex_put r1.ex gp, fun b hb hn => ?_, fun p L e => ?_, ⟨tabs_keep r1.tab.1 (fun b ps e => (upd_ne fun z => by rw [z, atp] at e; cases e).trans e) (Ex.rf _), r1.tab.2⟩, r1.len, fun l x ov e1 e2 => ?_, r1.inj⟩
    · have ne : b ≠ pp := fun z => hb (by rw [z]; exact f2)
      exact ⟨(upd_ne ne).trans (r1.fr b hb hn).1, (r1.fr b hb hn).2⟩
    · exact ⟨(r1.pen p L e).1.put (f3.1 p L e).1 (f3.1 p L e).2, (r1.pen p L e).2⟩
    · have kk := r1.sl l x ov e1 e2
      cases x with
      | no => exact kk
      | d x => exact kk
      | own es =>
        obtain ⟨c, ws, w1, w2, w3⟩ := kk
        have ne : c ≠ pp := fun z => f4' l es e1 (by rw [e2, w1, z])
        exact ⟨c, ws, w1, (upd_ne ne).trans w2, w3⟩
      | pen => exact kk
  refine q _ _ _ _ _ h1 r2 ⟨g1.ex, fun b hb ho => ?_, g1.own⟩ ⟨pp, _, rfl, upd_at, ⟨_, rfl, .cons hv .nil⟩, gp, f2, f3, f4'⟩ fun _ _ => ⟨pp, rfl, hp⟩
  have nb : b ≠ pp := fun z => hb (by rw [z]; exact hp)
  obtain ⟨o1, o2⟩ := g1.old b (by rw [upd_ne nb]; exact hb) ho
  exact ⟨(upd_ne nb).trans (o1.trans (upd_ne nb)), o2⟩
/-! ### a builtin told of one's own list -/
@[simp] def atom : D → Bool
  | .non => true
  | .bl _ => true
  | .int _ => true
  | .str _ => true
  | _ => false
theorem atom_vd {G G' : Hp} {v : V} {d : D} (h : atom d = true) (hv : Vd G v d) : Vd G' v d := by
  cases hv <;> first | exact .non | exact .bl _ | exact .int _ | exact .str _ | cases h
theorem atom_ref {G : Hp} {p : Addr} {d : D} (h : atom d = true) (hv : Vd G (.ref p) d) : False := by
  cases hv <;> cases h
@[simp] def dCBO (i : Nat) (ρ : List D → (D → Prop) → Prop) : DE := fun s R => match s.sl[i]? with
  | some (.own (.l ds)) => ρ [.lst ds] fun d => atom d = true ∧ R d s
  | _ => False
theorem e_cbO (i : Nat) {id : String} {r : List V → Hp → VK → Prop} {ρ : List D → (D → Prop) → Prop} {x : Str} {p pos : Pos} {e : Expr} (hc : ∀ j, CallR (F.X j) (.builtin id) r) (hr : CSound r ρ) (hm : mg x = none) (hv : bootBuiltins x = some (.builtin id)) (he0 : ∀ j, PE (F.X j) e (tVar i)) (hg : ∀ j, Gl (F.X j) x)
    (hn : x ≠ "__name__" := by decide) (hdb : (x == ("__debug__" : Str)) = false := by decide) (he : ∀ j, starEach [e] (F.X j).env = (false, eval e (F.X j).env) :: starEach [] (F.X j).env := by intro _; rfl) (hpl : ∀ j, (backTo pos (starEach [] (F.X j).env)).any (·.1) = false := by intro _; rfl) :
    ED M F (.Call (.Name x p) [e] [] pos) (dCBO i ρ) := by
  refine ⟨tCB r (tCons (tVar i) tNil), fun j => pe_callB (hc j) (hg j) (by rw [F.hm j]; exact hm) hv (pa_cons (he0 j) pa_nil (he j)) hn hdb (he j) (hpl j), fun s σ G H R Q rel h q => ?_⟩
  unfold dCBO at h
  split at h
  · rename_i ds hi
    obtain ⟨a, vs, x1, x2, x3, x4, _⟩ := rel.getL hi
    refine ⟨_, x1, ?_⟩
    have ga : Ex G (upd G a (.lst vs)) := ex_new x4
    refine hr (upd G a (.lst vs)) H [.ref a] [.lst ds] _ _ (ex_fix' rel.ex x2) (.cons (.lst upd_at (Vds.mono ga x3)) .nil) h (fun d v hd hv => q _ _ _ _ _ hd.2 rel Go.rf (atom_vd hd.1 hv)) fun d u pp o hd hp hz hu => ?_
    exact (atom_ref hd.1 (hz (upd (upd G a (.lst vs)) pp o) (ex_new (by
      rw [upd_ne fun z => by rw [z, x2] at hp; cases hp]
      exact ex_none rel.ex hp)) upd_at)).elim
  · exact h.elim
theorem e_sumO (hm : mg "sum" = none) (i : Nat) {p pos : Pos} {a : Expr} (hv : ∀ j, PE (F.X j) a (tVar i)) (hg : ∀ j, Gl (F.X j) "sum") (he : ∀ j, starEach [a] (F.X j).env = (false, eval a (F.X j).env) :: starEach [] (F.X j).env := by intro _; rfl) (hpl : ∀ j, (backTo pos (starEach [] (F.X j).env)).any (·.1) = false := by intro _; rfl) :
    ED M F (.Call (.Name "sum" p) [a] [] pos) (dCBO i cSum) := e_cbO i (fun j => by have := cr_sumX (X := F.X j) (F.hc j); rw [F.hK j] at this; exact this) c_sum hm boot_sum hv hg (by decide) (by decide) he hpl
/-! ### sorted(set(e)) -/
@[simp] def dSortSet (φ : DE) : DE := fun s R => φ s fun d s1 => match d with
  | .lst xs => ∃ ns, intsD xs = some ns ∧ ns.length < 64 ∧ ∀ out : List Int, out.Pairwise (· < ·) → (∀ k, k ∈ out ↔ k ∈ ns) → R (.lst (out.map .int)) s1
  | _ => False
theorem vds_ints {G : Hp} : ∀ ns : List Int, Vds G (ns.map V.int) (ns.map D.int)
  | [] => .nil
  | n :: ns => .cons (.int n) (vds_ints ns)
theorem boot_setD : bootBuiltins "set" = some (.type "set") := by decide +kernel
theorem e_sortSet {p p2 pos pos2 : Pos} {a : Expr} {φ : DE} (hm : mg "sorted" = none) (hm2 : mg "set" = none) (h : ED M F a φ) (hg : ∀ j, Gl (F.X j) "sorted") (hg2 : ∀ j, Gl (F.X j) "set") (he : ∀ j, starEach [a] (F.X j).env = (false, eval a (F.X j).env) :: starEach [] (F.X j).env := by intro _; rfl)
    (he2 : ∀ j, starEach [.Call (.Name "set" p2) [a] [] pos2] (F.X j).env = (false, eval (.Call (.Name "set" p2) [a] [] pos2) (F.X j).env) :: starEach [] (F.X j).env := by intro _; rfl) : ED M F (.Call (.Name "sorted" p) [.Call (.Name "set" p2) [a] [] pos2] [] pos) (dSortSet φ) := by
  obtain ⟨t, q, b⟩ := h
  refine ⟨tCB (rSortedSet w) (tCons (tCB (SetL.rSetL K w) (tCons t tNil)) tNil), fun j => ?_, fun s σ G H R Q rel h qq => ?_⟩
  · have s1 := cr_sortedSet (X := F.X j) (F.hc j)
    have s2 := SetL.cr_setL (X := F.X j) (F.hc j)
    rw [F.hw j] at s1 s2
    rw [F.hK j] at s2
    exact pe_callB s1 (hg j) (by rw [F.hm j]; exact hm) (by decide +kernel) (pa_cons (pe_callTy s2 (hg2 j) (by rw [F.hm j]; exact hm2) boot_setD (pa_cons (q j) pa_nil (he j)) (by decide) (by decide) (he j) rfl) pa_nil (he2 j)) (by decide) (by decide) (he2 j) rfl
  · refine b s σ G H _ _ rel h fun d s1 v G1 H1 h1 r1 g1 hv => ?_
    split at h1
    · rename_i xs
      obtain ⟨ns, hn, h64, hR⟩ := h1
      cases hv with
      | @lst l vs _ hl hvs =>
        refine ⟨l, ns, rfl, .inl (.inl (by rw [← ints_v hvs hn]; exact r1.ex _ _ hl)), by omega, fun p c hp hc => ?_⟩
        refine ⟨p, _, c, rfl, upd_at, by omega, fun out p2 hs hm hlen hp2 => ?_⟩
        have rA : Rel M s1 σ G1 (upd H1 p (SetO w p (fun j => decide (j ∈ ns)) c)) := r1.lay hp
        refine qq _ _ _ _ _ (hR out hs fun k => (hm k).trans decide_eq_true_iff) (rA.new hp2) (g1.tr ((Go.lay hp).tr (.new rA hp2))) (.lst upd_at (vds_ints out))
    · exact h1.elim
end
end DL
namespace DL
open PySem PySem.Spec PyProof.Rows L2
/-! ### repr -/
def Sys (K : PySem.W.Frag) : Prop := ∃ o, K.lookup sysModules = some o
section
variable {X : Cx} {pins : List (Addr × Obj)} {σ : L2.St} {H : Hp} {s : Shared}
theorem not_sys (Sy : Sys X.K) (I : Inv X pins σ H s) {a : Addr} {o : HO} (h : H a = some o) : sysModules ≠ a := fun e => by
  obtain ⟨u, hu⟩ := Sy
  have q := (I.bs _ _ (I.ok.mod.kin _ _ hu)).2
  rw [e, h] at q
  cases q
mutual
/-- data of which a text is made -/
inductive VP (H : Hp) : V → PyData → Prop
  | non : VP H .non .none
  | bl (b : Bool) : VP H (.bl b) (.bool b)
  | int (i : Int) : VP H (.int i) (.int i)
  | str (x : Str) : VP H (.str x) (.str x)
  | lst {a : Addr} {xs : List V} {ds : List PyData} : H a = some (.lst xs) → VPs H xs ds → VP H (.ref a) (.list ds)
  | tup {a : Addr} {xs : List V} {ds : List PyData} : H a = some (.tup xs) → VPs H xs ds → VP H (.ref a) (.tuple ds)
inductive VPs (H : Hp) : List V → List PyData → Prop
  | nil : VPs H [] []
  | cons {v : V} {vs : List V} {d : PyData} {ds : List PyData} : VP H v d → VPs H vs ds → VPs H (v :: vs) (d :: ds)
end
mutual
theorem vp_of {G H : Hp} (e : Ex G H) : ∀ {d : D} {v : V} {x : PyData}, Vd G v d → pyE d = some x → VP H v x
  | .non, _, _, .non, h => by cases h; exact .non
  | .bl b, _, _, .bl _, h => by cases h; exact .bl b
  | .int i, _, _, .int _, h => by cases h; exact .int i
  | .str s, _, _, .str _, h => by cases h; exact .str s
  | .tup ds, _, x, .tup hp hv, h => by
    have h : (pyEs ds).map .tuple = some x := h
    cases q : pyEs ds with
    | none => rw [q] at h; cases h
    | some xs =>
      rw [q] at h
      cases h
      exact .tup (e _ _ hp) (vps_of e hv q)
  | .lst ds, _, x, .lst hp hv, h => by
    have h : (pyEs ds).map .list = some x := h
    cases q : pyEs ds with
    | none => rw [q] at h; cases h
    | some xs =>
      rw [q] at h
      cases h
      exact .lst (e _ _ hp) (vps_of e hv q)
theorem vps_of {G H : Hp} (e : Ex G H) : ∀ {ds : List D} {vs : List V} {xs : List PyData}, Vds G vs ds → pyEs ds = some xs → VPs H vs xs
  | [], _, _, .nil, h => by cases h; exact .nil
  | d :: ds, _, xs, .cons a t, h => by
    unfold pyEs at h
    split at h
    · rename_i x ys h1 h2
      cases h
      exact .cons (vp_of e a h1) (vps_of e t h2)
    · cases h
end
mutual
theorem VP.reads (Sy : Sys X.K) (I : Inv X pins σ H s) : ∀ {d : PyData} {v : V} {u : Value}, VP H v d → RelV v u → ∃ as, Reads s.heap u d as ∧ sysModules ∉ as
  | _, _, _, .non, r => by
    cases r
    exact ⟨_, Reads.none, by simp⟩
  | _, _, _, .bl b, r => by
    cases r
    exact ⟨_, Reads.bool b, by simp⟩
  | _, _, _, .int i, r => by
    obtain ⟨t, rfl⟩ := r
    exact ⟨_, Reads.int i t, by simp⟩
  | _, _, _, .str x, r => by
    obtain ⟨t, rfl⟩ := r
    exact ⟨_, Reads.str x t, by simp⟩
  | _, _, _, .lst (a := a) (xs := xs) h t, r => by
    cases r
    obtain ⟨_, its, n, rv, e⟩ := (show ObjOk X.prog X.w H s.heap a (.lst xs) from I.hok a _ h)
    obtain ⟨as, q, ns⟩ := VPs.reads Sy I t rv
    exact ⟨_, Reads.list e rfl rfl q, by
      rw [List.mem_cons]
      rintro (z | z)
      · exact not_sys Sy I h z
      · exact ns z⟩
  | _, _, _, .tup (a := a) (xs := xs) h t, r => by
    cases r
    obtain ⟨_, its, rv, o, e, c, n, dd⟩ := (show ObjOk X.prog X.w H s.heap a (.tup xs) from I.hok a _ h)
    obtain ⟨as, q, ns⟩ := VPs.reads Sy I t rv
    exact ⟨_, Reads.tuple e c dd q, ns⟩
theorem VPs.reads (Sy : Sys X.K) (I : Inv X pins σ H s) : ∀ {ds : List PyData} {vs : List V} {us : List Value}, VPs H vs ds → Vals vs us → ∃ as, ReadsAll s.heap us ds as ∧ sysModules ∉ as
  | _, _, _, .nil, r => by
    cases r
    exact ⟨_, ReadsAll.nil, by simp⟩
  | _, _, _, .cons h t, r => by
    cases r with
    | cons r1 r2 =>
      obtain ⟨as, q1, n1⟩ := VP.reads Sy I h r1
      obtain ⟨bs, q2, n2⟩ := VPs.reads Sy I t r2
      exact ⟨_, ReadsAll.cons q1 q2, by rw [List.mem_append]; rintro (z | z); exact n1 z; exact n2 z⟩
end
/-- may be shown: sizes -/
structure Fit (d : PyData) : Prop where
  sh : d.showable = true
  dp : d.depth ≤ 50
  sz : d.shown.length ≤ sizeLine
def rReprD : List V → Hp → VK → Prop := fun xs H Q => ∃ v p, xs = [v] ∧ VP H v p ∧ Fit p ∧ Q (.str p.shown) H
theorem call_reprD (Sy : Sys X.K) (hG : X.A.guards = some []) (hu : X.A.units + 64 < cLine) : CallR X (.builtin "repr") rReprD := by
  intro pins s σ H xs us Q I r h
  obtain ⟨v, p, rfl, hv, ft, q⟩ := h
  obtain ⟨u, rfl, ru⟩ := r.one
  obtain ⟨as, rd, ns⟩ := VP.reads Sy I hv ru
  cases hv with
  | non => cases ru; exact PySem.P.repr_of_none ⟨.str _, H, I.tok _, ⟨_, rfl⟩, q⟩
  | bl b => cases ru; exact PySem.P.repr_of_bool ⟨.str _, H, I.tok _, ⟨_, rfl⟩, q⟩
  | int i =>
    obtain ⟨t, rfl⟩ := ru
    exact PySem.P.repr_of_int (of_decide_eq_true (show decide (i.natAbs.log2 < 1920) = true from ft.sh)) ⟨.str _, H, I.tok _, ⟨_, rfl⟩, q⟩
  | str z => obtain ⟨t, rfl⟩ := ru; exact PySem.P.repr_of_str ⟨.str _, H, I.tok _, ⟨_, rfl⟩, q⟩ ft.sz
  | lst h t =>
    cases ru
    exact repr_of_reads' rd ft.sh (fun _ => ns) hG (by have := ft.dp; omega) (fun _ _ e => e) (fun h' u tk k => ⟨.str _, H, I.kept k, ⟨_, rfl⟩, q⟩) ft.sz
  | tup h t =>
    cases ru
    exact repr_of_reads' rd ft.sh (fun _ => ns) hG (by have := ft.dp; omega) (fun _ _ e => e) (fun h' u tk k => ⟨.str _, H, I.kept k, ⟨_, rfl⟩, q⟩) ft.sz
end
section
variable {P : Program} {w : World} {K : PySem.W.Frag} {mg : Str → Option Value} {base : Heap} {k : Nat} {M : Cm} {F : Fam P w K mg base k}
@[simp] def cRepr : List D → (D → Prop) → Prop := fun ds R => match ds with
  | [d] => ∃ p, pyE d = some p ∧ Fit p ∧ R (.str p.shown)
  | _ => False
theorem c_repr : CSound rReprD cRepr := by
  intro G H xs ds R Q e hv h q _
  unfold cRepr at h
  split at h
  · obtain ⟨p, h1, h2, h3⟩ := h
    cases hv with
    | cons a t =>
      cases t
      exact ⟨_, p, rfl, vp_of e a h1, h2, q _ _ h3 (.str _)⟩
  · exact h.elim
theorem e_repr (Sy : Sys K) (hu : 0 < k) {p pos : Pos} {a : Expr} {ψ : DA} (hm : mg "repr" = none) (ha : EA M F [a] ψ) (hg : ∀ j, Gl (F.X j) "repr") (he : ∀ j, starEach [a] (F.X j).env = (false, eval a (F.X j).env) :: starEach [] (F.X j).env := by intro _; rfl) (hpl : ∀ j, (backTo pos (starEach [] (F.X j).env)).any (·.1) = false := by intro _; rfl) :
    ED M F (.Call (.Name "repr" p) [a] [] pos) (dCB cRepr ψ) := e_callB (fun j => call_reprD (by rw [F.hK j]; exact Sy) (F.hG j) (by have := (F.hr j).un; omega)) c_repr hm boot_repr ha hg (by decide) (by decide) he hpl
end
end DL
/-! lambdas of a def's body; the fault of a call -/
namespace DL
open PySem PySem.Spec PyProof.Rows L2 Clo
theorem cf_pair : ∀ (names : List (Str × NameKind)) (n : Nat) (acc : List (Str × Addr)), (∀ p ∈ acc, p.2 < n) → acc.Pairwise (fun x y => x.2 ≠ y.2) → (cellsFrom n names acc).Pairwise fun x y => x.2 ≠ y.2
  | [], n, acc, _, h => h
  | (m, k) :: r, n, acc, hb, h => by
    rw [cellsFrom]
    split
    · refine cf_pair r (n + 1) _ (fun p hp => ?_) (List.pairwise_cons.mpr ⟨fun p hp => ?_, h⟩)
      · rcases List.mem_cons.mp hp with e | e
        · rw [e]; exact Nat.lt_succ_self n
        · exact Nat.lt_succ_of_lt (hb p e)
      · exact Nat.ne_of_gt (hb p hp)
    · exact cf_pair r n acc hb h
/-- the captured names are cells of the maker -/
def capB (fsc sc : Scope) : Bool := sc.names.all fun y => !decide (y.2 = .free) || decide (fsc.names.lookup y.1 = some .cell)
theorem capB_at {fsc sc : Scope} (h : capB fsc sc = true) : ∀ y ∈ sc.names, y.2 = .free → fsc.names.lookup y.1 = some .cell := fun y hy e => by
  have := List.all_eq_true.mp h y hy
  simpa [e] using this
theorem cap_has {fsc sc : Scope} {n : Nat} (h : capB fsc sc = true) : ∀ y ∈ sc.names, y.2 = .free → ∃ c, (cellsFrom n fsc.names []).lookup y.1 = some c := fun y hy e => cell_has (capB_at h y hy e)
theorem closS_body {q : Str} {params : Arguments} {body : Expr} {sc fsc : Scope} {n : Nat} (hs : cloSB ⟨q, params, body, sc, L2.cloFrom (cellsFrom n fsc.names []) sc.names []⟩ = true) (hc : capB fsc sc = true) : CloS ⟨q, params, body, sc, L2.cloFrom (cellsFrom n fsc.names []) sc.names []⟩ := by
  have h := hs
  unfold cloSB at h
  simp only [Bool.and_eq_true, Bool.or_eq_true, Bool.not_eq_true', decide_eq_true_eq, decide_eq_false_iff_not, List.all_eq_true] at h
  obtain ⟨⟨⟨h1, h2⟩, h3⟩, h4⟩ := h
  have hfree := cap_has (n := n) hc
  refine ⟨h1, h2, h3, fun y hy => (h4 y hy).1, fun y hl => mem_lookup (cloFrom_has (cells := cellsFrom n fsc.names []) (acc := []) (PySem.mem_of_lookup hl)), fun y z c e1 e2 => ?_⟩
  have p := cf_pair fsc.names n [] (fun p hp => by cases hp) List.Pairwise.nil
  rcases cl_free (PySem.mem_of_lookup e1) hfree with z1 | ⟨_, z1⟩
  · cases z1
  · rcases cl_free (PySem.mem_of_lookup e2) hfree with z2 | ⟨_, z2⟩
    · cases z2
    · exact name_of_addr p (PySem.mem_of_lookup z1) (PySem.mem_of_lookup z2)
/-! ### a def of which the code object is known -/
section
variable {P : Program} {w : World} {K : PySem.W.Frag} {mg : Str → Option Value} {base : Heap} {k : Nat}
theorem fnG_ofC {CX : CXT} {f : Addr} {fd : FuncData} {ps N : List Str} {sp : Sp} {x qual : Str} {params : Arguments} {body : List Stmt} {scope : Scope} {dvs : List V} {kws : List (Str × V)} (F : FunD K x qual params body scope dvs kws f fd) (S : FnScope N ps scope) (len : ∀ vs H Q E, sp vs H Q E → vs.length = ps.length)
    (hbody : ∀ (A : Around) (outer : List Env) (s : Shared) (H : Hp) (vs : List V) (Q : VK) (E : XK), Room k (A.deeper (envOfC qual scope s.heap.objs.size f fd.code)) → A.guards = some [] → sp vs H Q E →
      ∃ t, PSs (cxOf CX P w K mg base N qual scope f fd.code A outer s H E) body t ∧ t { nx := fun _ H' => Q .non H', rt := Q } (start N vs) H) : Gd.FnG P w K mg base CX (k + 1) f fd ps sp := by
  obtain ⟨oc, od, dV, kV, doc, pm, an, cdv, ct, osl, rfl, lk, hcd, _, _⟩ := F.ex
  exact ⟨len, fun A outer s H args us vs Q E hr hg e0 hb hv hs => LamX.run_ofS lk hcd S hr e0 hb hv (len _ _ _ _ hs) fun hr' => hbody A outer s H vs Q E hr' hg hs⟩
theorem fn_ofC {x qual : Str} {params : Arguments} {body : List Stmt} {scope : Scope} {f : Addr} {fd : FuncData} {N ps : List Str} {hp : Bool} {T : List (Addr × Str)} {Φ : DFn} (Fd : FunD K x qual params body scope [] [] f fd) (Sc : FnScope N ps scope) (hl : ∀ ds c R RX, Φ ds c R RX → ds.length + (if hp then 1 else 0) = ps.length)
    (hb : ∀ (A : Around) (outer : List Env) (s : Shared) (H : Hp) (E : XK) (hr : Room k (A.deeper (envOfC qual scope s.heap.objs.size f fd.code))) (hG : A.guards = some []) (M : Cm) (RX : DX → Int → Prop), M.H0 = H → M.pen.isSome = hp → M.tabs = T → Nice M → XS M E RX →
      ∃ ψ, SDs M (bodyF P w K mg base k N qual scope f fd.code A outer s H E hr hG) body ψ ∧ ∀ ds c R, Φ ds c R RX → ψ ⟨slots0 hp N.length ds, c⟩ { nx := fun s => R .non s.c, rt := fun d s => R d s.c }) :
    Gd.FnG P w K mg base (L2.CX P w) (k + 1) f fd ps (spF hp T Φ) := by
  refine fnG_ofC Fd Sc (fun vs H Q E h => ?_) (fun A outer s H vs Q E hr hG h => ?_)
  · obtain ⟨M, us, ds, c, R, RX, h1, h2, ht, rfl, h4, h5, h6, _⟩ := h
    rw [← hl ds c R RX h6, List.length_append, h5.len]
    cases q : M.pen with
    | none => rw [q] at h2; subst h2; simp [penA]
    | some p => rw [q] at h2; subst h2; simp [penA]; omega
  · obtain ⟨M, us, ds, c, R, RX, h1, h2, ht, rfl, h4, h5, h6, h7, h8⟩ := h
    subst h1
    obtain ⟨ψ, ⟨t, p, a⟩, pure_⟩ := hb A outer s M.H0 E hr hG M RX rfl h2 ht (FrOk.nice (c := c) h4) h8
    refine ⟨t, p (), a _ _ M.G0 M.H0 _ _ (rel0 h4 h2 h5) (pure_ ds c R h6) ⟨fun s σ G H hh r x => ?_, fun d s σ v G H hh r x hv => ?_, fun _ _ _ _ z => z.elim, fun _ _ _ _ z => z.elim⟩⟩
    · exact h7 _ _ _ _ _ hh (r.frOk (FrOk.nice (c := c) h4)) .non
    · exact h7 _ _ _ _ _ hh (r.frOk (FrOk.nice (c := c) h4)) hv
end
/-! ### _law_fault(lambda: ..) -/
@[simp] def slotsAt (sl : List Slot) (is : List Nat) : List (Option D) := is.map fun (i : Nat) => match sl[i]? with
  | some (.d x) => some x
  | _ => none
@[simp] def dFaultLam (is : List Nat) (Ψ : DFn) (l : List (Str × Addr × List Str)) : DE := fun s R => ∃ env, slotsAt s.sl is = env.map some ∧ flats env = true ∧ Ψ env 0 (fun _ _ => flat .non = true ∧ R .non s) fun x _ => ∃ tag, (tag, x.C, x.ns) ∈ l ∧ flat (.tup (.str tag :: x.ds)) = true ∧ R (.tup (.str tag :: x.ds)) s
section
variable {P : Program} {w : World} {K : PySem.W.Frag} {mg : Str → Option Value} {base : Heap} {k : Nat} {M : Cm} {F : Fam P w K mg base k}
theorem e_faultLam {kk : Nat} {f : Addr} {fd : FuncData} {l : List (Str × Addr × List Str)} {x : Str} {p pos lpos : Pos} {c Pt : Addr} {params : Arguments} {body : Expr} {scope : Scope} {q : Str} {cells : List (Str × Addr)} {N : List Str} {Ψ : DFn} (is : List Nat)
    (Fn : Gd.FnG P w K mg base (L2.CX P w) (kk + 1) f fd ["work"] (spF false [] (Φ_fault P w K mg base kk l))) (hk : kk + 1 ≤ k) (hm : mg x = some (.ref f)) (kp : PySem.W.keepIn K (.ref f) = true) (hb : Binds K fd ["work"] [])
    (hC : CloD P w K mg base kk ⟨q, params, body, scope, L2.cloFrom cells scope.names []⟩ Ψ) (ni : Nice M) (hE : XS M F.E fun _ _ => False) (TB : LamX.TabB base mg c Pt) (hmT : (Pt, q) ∈ M.tabs) (hu : ∀ p ∈ M.tabs, p.1 = Pt → p.2 = q) (hcode : ∀ j, (F.X j).env.code = .ref c) (hq : ∀ j, (F.X j).env.qual ++ "<lambda>" = q)
    (hcl : ∀ j, (F.X j).env.cells = cells) (hNj : ∀ j, (F.X j).N = N) (hnd : N.Nodup) (hns : ∀ j, ∀ y ∈ frees ⟨q, params, body, scope, L2.cloFrom cells scope.names []⟩, (F.X j).env.kindOf y = some .cell) (hfn : ∀ j, (F.X j).fn = fun _ => true) (hfree : ∀ y ∈ scope.names, y.2 = .free → ∃ c, cells.lookup y.1 = some c)
    (his : (frees ⟨q, params, body, scope, L2.cloFrom cells scope.names []⟩).map (fun y => N.idxOf y) = is) (hin : (frees ⟨q, params, body, scope, L2.cloFrom cells scope.names []⟩).all (fun y => decide (y ∈ N)) = true) (hg : ∀ j, Gl (F.X j) x) (hdb : (x == ("__debug__" : Str)) = false := by decide)
    (he : ∀ j, starEach [.Lambda params body scope lpos] (F.X j).env = (false, eval (.Lambda params body scope lpos) (F.X j).env) :: starEach [] (F.X j).env := by intro _; rfl) (hpl : ∀ j, (backTo pos (starEach [] (F.X j).env)).any (·.1) = false := by intro _; rfl) (hdef : ∀ j, defaultsOf params (F.X j).env = ([], []) := by intro _; rfl) :
    ED M F (.Call (.Name x p) [.Lambda params body scope lpos] [] pos) (dFaultLam is Ψ l) := by
  have has : ∀ y ∈ frees ⟨q, params, body, scope, L2.cloFrom cells scope.names []⟩, ∃ c, cells.lookup y = some c := fun y hy => by
    obtain ⟨pr, hp, e⟩ := List.mem_filterMap.mp hy
    split at e
    · rename_i hf
      cases e
      exact hfree pr hp hf
    · cases e
  obtain ⟨t, pe, a⟩ := e_callS (x := x) (p := p) (pos := pos) (RX := fun _ _ => False) Fn hk hm kp hb hE ni hcl hNj hnd hns hfn has (a_cons (e_lam (pos := lpos) TB hmT hu hcode hq hcl hfree hdef) a_nil he) hg hdb he hpl
  refine ⟨t, pe, fun s σ G H R Q rel h qq => a s σ G H R Q rel ?_ qq⟩
  obtain ⟨env, h1, h2, h3⟩ := h
  refine ⟨[.sc ⟨q, params, body, scope, L2.cloFrom cells scope.names []⟩ env], .cons (.clo (List.all_eq_true.mpr fun y hy => ?_) ?_ h2) .nil, _, env, Ψ, rfl, h2, hC, h3⟩
  · rw [Bool.and_eq_true, decide_eq_true_eq]
    exact ⟨hy, List.all_eq_true.mp hin y hy⟩
  · rw [← h1, ← his]
    simp only [slotsAt, List.map_map]
    rfl
end
/-! int(x) -/
@[simp] def cInt : List D → (D → Prop) → Prop := fun ds R => match ds with
  | [.int i] => R (.int i)
  | [.bl b] => R (.int (if b then 1 else 0))
  | _ => False
section
variable {P : Program} {w : World} {K : PySem.W.Frag} {mg : Str → Option Value} {base : Heap} {k : Nat} {M : Cm} {F : Fam P w K mg base k}
theorem c_int : CSound (fun xs H Q => (∃ i, xs = [.int i] ∧ Q (.int i) H) ∨ ∃ k, xs = [.bl k] ∧ Q (.int (if k then 1 else 0)) H) cInt := by
  intro G H xs ds R Q e hv h q _
  unfold cInt at h
  split at h
  · cases hv with
    | cons a t =>
      cases t
      cases a
      exact .inl ⟨_, rfl, q _ _ h (.int _)⟩
  · cases hv with
    | cons a t =>
      cases t
      cases a
      exact .inr ⟨_, rfl, q _ _ h (.int _)⟩
  · exact h.elim
theorem e_intc {p pos : Pos} {a : Expr} {ψ : DA} (hm : mg "int" = none) (ha : EA M F [a] ψ) (hg : ∀ j, Gl (F.X j) "int") (he : ∀ j, starEach [a] (F.X j).env = (false, eval a (F.X j).env) :: starEach [] (F.X j).env := by intro _; rfl) (hpl : ∀ j, (backTo pos (starEach [] (F.X j).env)).any (·.1) = false := by intro _; rfl) :
    ED M F (.Call (.Name "int" p) [a] [] pos) (dCB cInt ψ) := e_callTy (fun _ => call_int1) c_int hm boot_intD ha hg (by decide) (by decide) he hpl
end
end DL
/-! what each law's texts share -/
namespace DL
open PySem PySem.Spec PyProof.Rows L2
@[simp] def tCm (ρ : DO) (φ ψ : DE) : DT := fun s R => dOp ρ φ ψ s fun d s' => ∃ b, d = .bl b ∧ R b s'
@[simp] def dRetN : DS := fun s E => E.rt .non s
/-- what a law's texts are told of: the classes' addresses, what is promised of closures -/
structure Gm where
  a : Str → Addr
  clo : Clo.CloD → DFn → Prop
theorem spF_imp {hp : Bool} {T : List (Addr × Str)} {Φ Φ' : DFn} (h : ∀ ds c R RX, Φ' ds c R RX → Φ ds c R RX) {vs : List V} {H : Hp} {Q : VK} {E : XK} (x : spF hp T Φ' vs H Q E) : spF hp T Φ vs H Q E := by
  obtain ⟨M, us, ds, c, R, RX, h1, h2, h3, h4, h5, h6, h7, h8⟩ := x
  exact ⟨M, us, ds, c, R, RX, h1, h2, h3, h4, h5, h6, h _ _ _ _ h7, h8⟩
section
variable {P : Program} {w : World} {K : PySem.W.Frag} {mg : Str → Option Value} {base : Heap} {k : Nat} {M : Cm} {F : Fam P w K mg base k}
theorem s_setR {i : Nat} {st : Stmt} {e : Expr} {φ : DE} (hs : ∀ t : TE, (∀ j, PE (F.X j) e t) → ∀ j, PS (F.X j) st (tAsg t (gName i))) (he : ED M F e φ) : SD M F st (dSet i φ) := s_set he hs
theorem s_ownR {i : Nat} {st : Stmt} {e : Expr} {φ : DA} (hs : ∀ t : TE, (∀ j, PE (F.X j) e t) → ∀ j, PS (F.X j) st (tAsg t (gName i))) (he : EL M F e φ) : SD M F st (dOwn i φ) := s_own he hs
theorem s_parR {i j : Nat} {a b : Expr} {φ ψ : DP} {st : Stmt} (hij : i ≠ j) (hst : ∀ t u : TE, (∀ q, PE (F.X q) a t) → (∀ q, PE (F.X q) b u) → ∀ q, PS (F.X q) st (tPar i j (tCons t (tCons u tNil)))) (h1 : EP M F a φ) (h2 : EP M F b ψ) : SD M F st (dPar i j φ ψ) := s_par h1 h2 hij hst
end
section
variable {P : Program} {w : World} {K : PySem.W.Frag} {mg : Str → Option Value} {base : Heap} {k : Nat} {M : Cm} {F : Fam P w K mg base k}
/-- name = [.. for .. in ..], where the name's store is swapped with the comprehension's own -/
theorem s_setLc (i : Nat) {y : Str} {py : Pos} {own : List (Str × Nat)} {tg iter elt : Expr} {ifs : List Expr} {scope : Scope} {pos spos : Pos} {φ : DA} {γ : D → S → (S → Prop) → Prop} {τ : DT} {ε : DE} (hy : ∀ j, (F.X j).N[i]? = some y) (hyl : ∀ j, (F.X j).env.scope.names.lookup y = some .local)
    (hsw : ∀ j, swapsWith (.ListComp elt [⟨tg, iter, ifs, 0⟩] scope pos) (some (.Name y py)) spos.line (F.X j).env = pure true) (ok : ∀ j, BlkOk (F.X j).N (F.X j).env.scope scope own) (hN : ∀ j, (F.X j).N.Nodup)
    (hi : ID M F tg iter φ) (hg : GD M (F.blk scope) (own.map (·.2)) tg γ) (ht : ETs M (F.blk scope) ifs τ) (he : ED M (F.blk scope) elt ε) (hs : ∀ j x, foldedSetIterable iter (F.X j).env x = pure x := by intro _ _; rfl) :
    SD M F (.Assign [.Name y py] (.ListComp elt [⟨tg, iter, ifs, 0⟩] scope pos) spos) (dSet i (dFz (dLc (own.map (·.2)) φ γ τ ε))) := by
  obtain ⟨wi, p1, a⟩ := hi
  obtain ⟨g, p2, b⟩ := hg
  obtain ⟨tt, p3, c⟩ := ht
  obtain ⟨te, p4, d⟩ := he
  have ls := lc_sound a b c d
  refine ⟨_, fun j => ps_setLc (F.hc j) (hN j) (hy j) (hyl j) (hsw j) (p1 j) (ok j) (fun s H C cl fp => p2 (j, s, H, C, cl, fp)) (fun s H C cl fp => p3 (j, s, H, C, cl, fp)) (fun s H C cl fp => p4 (j, s, H, C, cl, fp)) (hs j), fun s σ G H E Dn rel h e => ?_⟩
  refine ls s σ G H _ _ rel h fun ds s1 x vs G1 H1 h1 r1 e1 hvs hn hx f1 f2 f3 f4 => ?_
  have eg := ex_new (o := .lst vs) f1
  exact e.nx _ _ _ _ h1 ((r1.fix hx f1 f2 f3 f4).setD (.lst upd_at (Vds.mono eg hvs))) (e1.ex.tr eg)
/-- .. the list one's own -/
theorem s_ownLc (i : Nat) {y : Str} {py : Pos} {own : List (Str × Nat)} {tg iter elt : Expr} {ifs : List Expr} {scope : Scope} {pos spos : Pos} {φ : DA} {γ : D → S → (S → Prop) → Prop} {τ : DT} {ε : DE} (hy : ∀ j, (F.X j).N[i]? = some y) (hyl : ∀ j, (F.X j).env.scope.names.lookup y = some .local)
    (hsw : ∀ j, swapsWith (.ListComp elt [⟨tg, iter, ifs, 0⟩] scope pos) (some (.Name y py)) spos.line (F.X j).env = pure true) (ok : ∀ j, BlkOk (F.X j).N (F.X j).env.scope scope own) (hN : ∀ j, (F.X j).N.Nodup)
    (hi : ID M F tg iter φ) (hg : GD M (F.blk scope) (own.map (·.2)) tg γ) (ht : ETs M (F.blk scope) ifs τ) (he : ED M (F.blk scope) elt ε) (hs : ∀ j x, foldedSetIterable iter (F.X j).env x = pure x := by intro _ _; rfl) :
    SD M F (.Assign [.Name y py] (.ListComp elt [⟨tg, iter, ifs, 0⟩] scope pos) spos) (dOwn i (dLc (own.map (·.2)) φ γ τ ε)) := by
  obtain ⟨wi, p1, a⟩ := hi
  obtain ⟨g, p2, b⟩ := hg
  obtain ⟨tt, p3, c⟩ := ht
  obtain ⟨te, p4, d⟩ := he
  have ls := lc_sound a b c d
  refine ⟨_, fun j => ps_setLc (F.hc j) (hN j) (hy j) (hyl j) (hsw j) (p1 j) (ok j) (fun s H C cl fp => p2 (j, s, H, C, cl, fp)) (fun s H C cl fp => p3 (j, s, H, C, cl, fp)) (fun s H C cl fp => p4 (j, s, H, C, cl, fp)) (hs j), fun s σ G H E Dn rel h e => ?_⟩
  refine ls s σ G H _ _ rel h fun ds s1 x vs G1 H1 h1 r1 e1 hvs hn hx f1 f2 f3 f4 => ?_
  refine e.nx _ _ G1 _ h1 (r1.set ⟨x, _, rfl, hx, ⟨vs, rfl, hvs⟩, f1, f2, f3⟩ fun es b j fs e1 e2 nj hj => ?_) e1.ex
  cases e2
  exact f4 j fs hj
end
mutual
/-- lists as tuples, all the way down -/
def tups : D → D
  | .lst ds => .tup (tupsL ds)
  | .tup ds => .tup (tupsL ds)
  | d => d
def tupsL : List D → List D
  | [] => []
  | d :: ds => tups d :: tupsL ds
end
mutual
/-- plain data of a depth under n, rows not too long -/
def dep : Nat → D → Bool
  | 0, _ => false
  | n + 1, .lst ds => decide (ds.length ≤ 1000) && depL n ds
  | n + 1, .tup ds => decide (ds.length ≤ 1000) && depL n ds
  | n + 1, d => (tyN d).isSome
def depL : Nat → List D → Bool
  | _, [] => true
  | n, d :: ds => dep n d && depL n ds
end
def Φt (n : Nat) : DFn := fun ds c R _ => ∃ d, ds = [d] ∧ dep n d = true ∧ R (tups d) c
/-- a number under m, one draw more -/
def Φ_draw : DFn := fun ds c R _ => ∃ m, ds = [.int m] ∧ 0 < m ∧ m < 1073741824 ∧ 0 ≤ c ∧ c < 1000000000000 ∧ ∀ r, 0 ≤ r → r < m → R (.int r) (c + 1)
theorem lc_tups {n : Nat} {R : List D → S → Prop} {d0 : D} {c : Int} : ∀ (ds acc : List D), acc.length + ds.length ≤ 2000 → depL n ds = true → R (acc ++ tupsL ds) ⟨[.d d0, .no], c⟩ →
    lcL [1] (fun d s R => R (s.set 1 (.d d))) dYes (dCall (Φt n) (fun _ _ => False) (aCons (dVar 1) aNil)) R [.d d0, .no] acc ds c
  | [], acc, _, _, h => by simpa [tupsL] using h
  | d :: ds, acc, hl, hd, h => by
    have hd' : dep n d = true ∧ depL n ds = true := by
      unfold depL at hd
      rw [Bool.and_eq_true] at hd
      exact hd
    have hl' : acc.length + (ds.length + 1) ≤ 2000 := hl
    unfold lcL
    refine ⟨rfl, rfl, rfl, ?_⟩
    rw [if_pos rfl]
    refine ⟨d, rfl, hd'.1, rfl, by omega, ?_⟩
    refine lc_tups ds (acc ++ [tups d]) (by simp; omega) hd'.2 ?_
    have e : (acc ++ [tups d]) ++ tupsL ds = acc ++ tupsL (d :: ds) := by simp [tupsL]
    rw [e]
    exact h
end DL
/-! loops and comprehensions of transformers, by what holds at each turn -/
namespace DL
open PySem PySem.Spec PyProof.Rows L2
theorem for_ind {γ : D → S → (S → Prop) → Prop} {ψ : DS} {E : DEn} (I : List D → S → Prop) (hnil : ∀ s, I [] s → E.nx s) (hcons : ∀ x xs s (K : S → Prop), I (x :: xs) s → (∀ s2, I xs s2 → K s2) → γ x s fun s1 => ψ s1 { nx := K, rt := E.rt, bk := E.nx, ct := K }) : ∀ xs s, I xs s → dForL γ ψ E xs s
  | [], s, h => hnil s h
  | x :: xs, s, h => hcons x xs s (dForL γ ψ E xs) h (for_ind I hnil hcons xs)
theorem for_nat {γ : D → S → (S → Prop) → Prop} {ψ : DS} {E : DEn} (I : Nat → S → Prop) {m : Nat} {g : Nat → D} {s : S} (h0 : I 0 s) (hnil : ∀ s, I m s → E.nx s) (hcons : ∀ k s (K : S → Prop), k < m → I k s → (∀ s2, I (k + 1) s2 → K s2) → γ (g k) s fun s1 => ψ s1 { nx := K, rt := E.rt, bk := E.nx, ct := K }) : dForL γ ψ E ((List.range m).map g) s := by
  refine for_ind (fun l s => ∃ k, k ≤ m ∧ l = ((List.range m).drop k).map g ∧ I k s) ?_ ?_ _ _ ⟨0, Nat.zero_le _, by simp, h0⟩
  · rintro s ⟨k, hk, e, h⟩
    have hk : k = m := by
      have := congrArg List.length e
      simp at this
      omega
    exact hnil s (hk ▸ h)
  · rintro x xs s K ⟨k, hk, e, h⟩ hK
    have hk : k < m := by
      by_cases q : k < m
      · exact q
      · have := congrArg List.length e
        simp at this
        omega
    rw [List.drop_eq_getElem_cons (by simpa using hk), List.map_cons] at e
    cases e
    rw [List.getElem_range]
    exact hcons k s K hk h fun s2 h2 => hK s2 ⟨k + 1, hk, rfl, h2⟩
/-- for i in range(m) -/
theorem for_rg {γ : D → S → (S → Prop) → Prop} {ψ : DS} {E : DEn} (I : Nat → S → Prop) {m : Nat} {s : S} (h0 : I 0 s) (hnil : ∀ s, I m s → E.nx s) (hcons : ∀ k s (K : S → Prop), k < m → I k s → (∀ s2, I (k + 1) s2 → K s2) → γ (.int k) s fun s1 => ψ s1 { nx := K, rt := E.rt, bk := E.nx, ct := K }) : dForL γ ψ E ((List.range m).map fun i : Nat => D.int i) s :=
  for_nat I h0 hnil hcons
/-- for i in range(m), with a break -/
theorem for_rgb {γ : D → S → (S → Prop) → Prop} {ψ : DS} {E : DEn} (I : Nat → S → Prop) {m : Nat} {s : S} (h0 : I 0 s) (hnil : ∀ k s, k ≤ m → I k s → E.nx s) (hcons : ∀ k s (K Bk : S → Prop), k < m → I k s → (∀ s2, I (k + 1) s2 → K s2) → (∀ k s, k ≤ m → I k s → Bk s) → γ (.int k) s fun s1 => ψ s1 { nx := K, rt := E.rt, bk := Bk, ct := K }) : dForL γ ψ E ((List.range m).map fun i : Nat => D.int i) s :=
  for_rg I h0 (fun s h => hnil m s (Nat.le_refl _) h) fun k s K hk h hK => hcons k s K E.nx hk h hK hnil
theorem map_nth {α : Type} (f : α → D) (d : α) (l : List α) : l.map f = (List.range l.length).map fun i => f (l.getD i d) := by
  apply List.ext_getElem
  · simp
  · intro i h1 h2
    simp at h1
    simp [h1]
theorem enL_nth {α : Type} (f : α → D) (d : α) : ∀ (l : List α) (n : Nat), enL n (l.map f) = (List.range l.length).map fun i => .tup [.int ((n + i : Nat) : Int), f (l.getD i d)]
  | [], n => rfl
  | x :: l, n => by
    have ih := enL_nth f d l (n + 1)
    rw [List.map_cons, List.length_cons, List.range_succ_eq_map, List.map_cons, List.map_map]
    show _ :: enL (n + 1) (l.map f) = _
    rw [ih]
    simp
    intro a _
    omega
/-- for i, x in enumerate(l) -/
theorem for_en {α : Type} {f : α → D} {l : List α} {γ : D → S → (S → Prop) → Prop} {ψ : DS} {E : DEn} (I : Nat → S → Prop) {s : S} (h0 : I 0 s) (hnil : ∀ s, I l.length s → E.nx s) (hcons : ∀ k x s (K : S → Prop), l[k]? = some x → I k s → (∀ s2, I (k + 1) s2 → K s2) → γ (.tup [.int k, f x]) s fun s1 => ψ s1 { nx := K, rt := E.rt, bk := E.nx, ct := K }) : dForL γ ψ E (enL 0 (l.map f)) s := by
  cases l with
  | nil => exact hnil s h0
  | cons d l =>
    rw [enL_nth f d]
    refine for_nat I h0 hnil fun k s K hk h hK => ?_
    rw [Nat.zero_add]
    exact hcons k _ s K (by rw [List.getD_eq_getElem?_getD, List.getElem?_eq_getElem hk]; rfl) h hK
/-- for x in l -/
theorem for_ls {α : Type} {f : α → D} {l : List α} {γ : D → S → (S → Prop) → Prop} {ψ : DS} {E : DEn} (I : Nat → S → Prop) {s : S} (h0 : I 0 s) (hnil : ∀ s, I l.length s → E.nx s) (hcons : ∀ k x s (K : S → Prop), l[k]? = some x → I k s → (∀ s2, I (k + 1) s2 → K s2) → γ (f x) s fun s1 => ψ s1 { nx := K, rt := E.rt, bk := E.nx, ct := K }) : dForL γ ψ E (l.map f) s := by
  cases l with
  | nil => exact hnil s h0
  | cons d l =>
    rw [map_nth f d]
    refine for_nat I h0 hnil fun k s K hk h hK => ?_
    exact hcons k _ s K (by rw [List.getD_eq_getElem?_getD, List.getElem?_eq_getElem hk]; rfl) h hK
theorem lc_ind {vs : List Nat} {γ : D → S → (S → Prop) → Prop} {τ : DT} {ε : DE} {R : List D → S → Prop} {sl : List Slot} (I : List D → List D → Int → Prop) (hnil : ∀ acc c, I acc [] c → R acc ⟨sl, c⟩)
    (hcons : ∀ acc x xs c (K : List D → Int → Prop), I acc (x :: xs) c → (∀ acc' c', I acc' xs c' → K acc' c') → γ x ⟨swipe sl vs, c⟩ fun s2 => safeL s2.sl vs = true ∧ swipe s2.sl vs = swipe sl vs ∧ τ s2 fun b s3 => s3.sl = s2.sl ∧
      if b = true then ε s3 fun y s4 => s4.sl = s2.sl ∧ acc.length < 10000 ∧ K (acc ++ [y]) s4.c else K acc s3.c) : ∀ xs acc c, I acc xs c → lcL vs γ τ ε R sl acc xs c
  | [], acc, c, h => hnil acc c h
  | x :: xs, acc, c, h => hcons acc x xs c (fun a c => lcL vs γ τ ε R sl a xs c) h (lc_ind I hnil hcons xs)
/-- [e for v in xs], e without a draw -/
theorem lc_map {v : Nat} {ε : DE} {R : List D → S → Prop} {sl : List Slot} (f : D → D) {xs : List D} {c : Int} (hv : v < sl.length) (hl : xs.length ≤ 10000) (hε : ∀ x ∈ xs, ∀ K : D → S → Prop, K (f x) ⟨sl.set v (.d x), c⟩ → ε ⟨sl.set v (.d x), c⟩ K)
    (h : R (xs.map f) ⟨sl, c⟩) : lcL [v] (fun d s R => R (s.set v (.d d))) dYes ε R sl [] xs c := by
  have key : ∀ (ys acc : List D), (∀ x ∈ ys, x ∈ xs) → acc.length + ys.length ≤ 10000 → R (acc ++ ys.map f) ⟨sl, c⟩ → lcL [v] (fun d s R => R (s.set v (.d d))) dYes ε R sl acc ys c := by
    intro ys
    induction ys with
    | nil =>
      intro acc _ _ h
      simpa using h
    | cons y ys ih =>
      intro acc hm hl h
      have hl' : acc.length + (ys.length + 1) ≤ 10000 := hl
      refine ⟨?_, ?_, rfl, ?_⟩
      · simp [hv]
      · simp
      · rw [if_pos rfl]
        have e0 : ((sl.set v .no).set v (.d y)) = sl.set v (.d y) := List.set_set ..
        show ε ⟨(sl.set v .no).set v (.d y), c⟩ _
        rw [e0]
        refine hε y (hm y List.mem_cons_self) _ ⟨e0.symm, by omega, ih (acc ++ [f y]) (fun x hx => hm x (List.mem_cons_of_mem _ hx)) (by simp; omega) ?_⟩
        simpa using h
  exact key xs [] (fun _ h => h) (by simpa using hl) (by simpa using h)
/-- [v for v in xs if p] -/
theorem lc_filt {α : Type} {v : Nat} {τ : DT} {R : List D → S → Prop} {sl : List Slot} (f : α → D) (p : α → Bool) {l : List α} {c : Int} (hv : v < sl.length) (hl : l.length ≤ 10000) (hτ : ∀ x ∈ l, ∀ K : Bool → S → Prop, K (p x) ⟨sl.set v (.d (f x)), c⟩ → τ ⟨sl.set v (.d (f x)), c⟩ K)
    (h : R ((l.filter p).map f) ⟨sl, c⟩) : lcL [v] (fun d s R => R (s.set v (.d d))) τ (dVar v) R sl [] (l.map f) c := by
  have key : ∀ (ys : List α) (acc : List D), (∀ x ∈ ys, x ∈ l) → acc.length + ys.length ≤ 10000 → R (acc ++ (ys.filter p).map f) ⟨sl, c⟩ → lcL [v] (fun d s R => R (s.set v (.d d))) τ (dVar v) R sl acc (ys.map f) c := by
    intro ys
    induction ys with
    | nil =>
      intro acc _ _ h
      simpa using h
    | cons y ys ih =>
      intro acc hm hl h
      have hl' : acc.length + (ys.length + 1) ≤ 10000 := hl
      refine ⟨?_, ?_, ?_⟩
      · simp [hv]
      · simp
      · have e0 : ((sl.set v .no).set v (.d (f y))) = sl.set v (.d (f y)) := List.set_set ..
        show τ ⟨(sl.set v .no).set v (.d (f y)), c⟩ _
        rw [e0]
        refine hτ y (hm y List.mem_cons_self) _ ⟨e0.symm, ?_⟩
        cases q : p y with
        | true =>
          rw [if_pos rfl]
          have e1 : (sl.set v (.d (f y)))[v]? = some (.d (f y)) := by simp [hv]
          simp only [dVar, e1]
          refine ⟨e0.symm, by omega, ih _ (fun x hx => hm x (List.mem_cons_of_mem _ hx)) (by simp; omega) ?_⟩
          rw [List.filter_cons, q] at h
          simpa using h
        | false =>
          rw [if_neg (by decide)]
          refine ih _ (fun x hx => hm x (List.mem_cons_of_mem _ hx)) (by omega) ?_
          rw [List.filter_cons, q] at h
          simpa using h
  exact key l [] (fun _ h => h) (by simpa using hl) (by simpa using h)
/-- data that may be told of its kind -/
@[simp] def pl (d : D) : Prop := (tyN d).isSome = true
def isI : D → Bool
  | .int _ => true
  | _ => false
def isTup (n : Int) : D → Bool
  | .tup ds => decide ((ds.length : Int) = n)
  | _ => false
theorem isTup_2 {d : D} (h : isTup 2 d = true) : ∃ a b, d = .tup [a, b] := by
  unfold isTup at h
  split at h
  · rename_i ds
    have h : (ds.length : Int) = 2 := of_decide_eq_true h
    match ds, h with
    | [a, b], _ => exact ⟨a, b, rfl⟩
    | [], h => simp at h
    | [_], h => simp at h
    | _ :: _ :: _ :: _, h => simp at h; omega
  · cases h
theorem isI_at {d : D} (h : isI d = true) : ∃ i, d = .int i := by
  unfold isI at h
  split at h
  · exact ⟨_, rfl⟩
  · cases h
theorem tyN_cases {d : D} (h : (tyN d).isSome = true) : d = .non ∨ (∃ b, d = .bl b) ∨ (∃ i, d = .int i) ∨ (∃ x, d = .str x) ∨ (∃ l, d = .tup l) ∨ (∃ l, d = .lst l) ∨ ∃ k l, d = .dct k l := by
  cases d <;> simp at h ⊢
end DL
namespace DL
open PySem PySem.Spec PyProof.Rows L2
/-! ### what is small enough to be shown -/
structure Sw (k w : Nat) (d : D) : Prop where
  ex : ∃ p, pyE d = some p ∧ p.showable = true ∧ p.depth ≤ k ∧ p.leavesShort 13 = true ∧ p.weight ≤ w
structure SwL (k w : Nat) (ds : List D) : Prop where
  ex : ∃ ps, pyEs ds = some ps ∧ PyData.showableAll ps = true ∧ PyData.depthAll ps ≤ k ∧ PyData.leavesShortAll 13 ps = true ∧ PyData.weightAll ps ≤ w
theorem Sw.up {k w k' w' : Nat} {d : D} (h : Sw k w d) (hk : k ≤ k') (hw : w ≤ w') : Sw k' w' d := by
  obtain ⟨p, a, b, c, e, f⟩ := h.ex
  exact ⟨p, a, b, by omega, e, by omega⟩
theorem SwL.up {k w k' w' : Nat} {d : List D} (h : SwL k w d) (hk : k ≤ k') (hw : w ≤ w') : SwL k' w' d := by
  obtain ⟨p, a, b, c, e, f⟩ := h.ex
  exact ⟨p, a, b, by omega, e, by omega⟩
theorem sw_non : Sw 0 0 .non := ⟨⟨.none, rfl, rfl, Nat.le_refl _, rfl, Nat.le_refl _⟩⟩
theorem sw_bl (b : Bool) : Sw 0 0 (.bl b) := ⟨⟨.bool b, rfl, rfl, Nat.le_refl _, by cases b <;> rfl, Nat.le_refl _⟩⟩
theorem sw_int {i : Int} (h : i.natAbs < 10 ^ 12) : Sw 0 40 (.int i) := by
  have e : (10 : Nat) ^ 12 < 2 ^ 40 := by decide
  have l : i.natAbs ≠ 0 → i.natAbs.log2 < 40 := fun z => (Nat.log2_lt z).mpr (by omega)
  refine ⟨⟨.int i, rfl, ?_, Nat.le_refl _, ?_, ?_⟩⟩
  · show decide (i.natAbs.log2 < 1920) = true
    by_cases z : i.natAbs = 0
    · rw [z]; decide
    · have := l z
      simp only [decide_eq_true_eq]
      omega
  · show decide ((PyData.shown (.int i)).length ≤ 13) = true
    exact decide_eq_true (PyData.shown_int_le h)
  · show (if i == 0 then 0 else i.natAbs.log2 + 1) ≤ 40
    split
    · omega
    · rename_i z
      have : i ≠ 0 := by simpa using z
      have := l (by omega)
      omega
theorem sw_str {x : Str} {n : Nat} (h : (PyData.str x).leavesShort 13 = true) (hn : x.cps.size ≤ n) : Sw 0 n (.str x) := ⟨⟨.str x, rfl, rfl, Nat.le_refl _, h, hn⟩⟩
theorem sw_tup {k w : Nat} {ds : List D} (h : SwL k w ds) : Sw (k + 1) w (.tup ds) := by
  obtain ⟨ps, a, b, c, e, f⟩ := h.ex
  exact ⟨.tuple ps, by show (pyEs ds).map PyData.tuple = _; rw [a]; rfl, b, by show PyData.depthAll ps + 1 ≤ _; omega, e, f⟩
theorem sw_lst {k w : Nat} {ds : List D} (h : SwL k w ds) : Sw (k + 1) w (.lst ds) := by
  obtain ⟨ps, a, b, c, e, f⟩ := h.ex
  exact ⟨.list ps, by show (pyEs ds).map PyData.list = _; rw [a]; rfl, b, by show PyData.depthAll ps + 1 ≤ _; omega, e, f⟩
theorem swl_nil : SwL 0 0 [] := ⟨⟨[], rfl, rfl, Nat.le_refl _, rfl, Nat.le_refl _⟩⟩
theorem swl_cons {k w k' w' : Nat} {d : D} {ds : List D} (h : Sw k w d) (t : SwL k' w' ds) : SwL (max k k') (w + 1 + w') (d :: ds) := by
  obtain ⟨p, a, b, c, e, f⟩ := h.ex
  obtain ⟨ps, a', b', c', e', f'⟩ := t.ex
  refine ⟨p :: ps, by unfold pyEs; rw [a, a'], ?_, ?_, ?_, ?_⟩
  · show (p.showable && PyData.showableAll ps) = true
    rw [b, b']; rfl
  · show max p.depth (PyData.depthAll ps) ≤ _
    omega
  · show (p.leavesShort 13 && PyData.leavesShortAll 13 ps) = true
    rw [e, e']; rfl
  · show p.weight + 1 + PyData.weightAll ps ≤ _
    omega
theorem swl_one {k w : Nat} : ∀ {ds : List D}, (∀ d ∈ ds, Sw k w d) → SwL k ((w + 1) * ds.length) ds
  | [], _ => swl_nil.up (Nat.zero_le _) (Nat.zero_le _)
  | d :: ds, h => (swl_cons (h d (by simp)) (swl_one fun x hx => h x (by simp [hx]))).up (by omega) (by rw [List.length_cons, Nat.mul_succ]; omega)
theorem Sw.fit {d : D} {k w : Nat} (h : Sw k w d) (hk : k ≤ 50) (hw : w ≤ 1048576) : ∃ p, pyE d = some p ∧ Fit p := by
  obtain ⟨p, a, b, c, e, f⟩ := h.ex
  exact ⟨p, a, b, by omega, PyData.shown_fits (B := 13) (by omega) (by omega) e (by omega)⟩
end DL
/-! the head of a law: facts of own errors, code objects with their tables, sys.modules in sight -/
namespace Hx
open PySem PySem.Spec PyProof.Rows L2 He DL
theorem SaysY.tabs {fa : List Fa} {fn : List DefD} {tf : List Defn} {ex : PySem.W.Frag → Bool} {hp : Heap} {K : PySem.W.Frag} (c : SaysY fa fn tf ex hp K) (X : K.In hp) : Gd.TabsAt hp K (tf.map (cT K)) where
  raw := by
    intro p m
    obtain ⟨q, hq, rfl⟩ := List.mem_map.mp m
    exact c.mt q hq
  free := by
    intro p m
    obtain ⟨q, hq, rfl⟩ := List.mem_map.mp m
    exact c.out q hq
  code := by
    intro p m
    obtain ⟨q, hq, rfl⟩ := List.mem_map.mp m
    exact PySem.W.codeHd_of_K X (c.hd q hq)
/-- a def's code object is the one whose table is told -/
theorem code_of {K : PySem.W.Frag} {p : Defn} {x qual : Str} {params : Arguments} {body : List Stmt} {scope : Scope} {dvs : List V} {kws : List (Str × V)} {fd : FuncData} (F : FunD K x qual params body scope dvs kws (fAd K p) fd) : fd.code = .ref (cT K p).1 := by
  obtain ⟨oc, od, dV, kV, doc, pm, an, cdv, ct, osl, rfl, lk, hcd, _, _⟩ := F.ex
  obtain ⟨c, rfl⟩ := codeIn_ref hcd
  show Value.ref c = .ref (codeOf K p)
  rw [codeOf_eq lk rfl]
/-! ### own errors -/
theorem oexB_ok {K : PySem.W.Frag} {C : Addr} (h : oexB K C = true) : OexC K C := by
  obtain ⟨h1, h⟩ := ba h
  obtain ⟨h2, h⟩ := ba h
  obtain ⟨h3, h⟩ := ba h
  obtain ⟨h4, h5⟩ := ba h
  refine ⟨?_, eqO_ok h2, of_decide_eq_true h3, of_decide_eq_true h4, h5⟩
  split at h1
  · rename_i dd cd sl ho
    split at h1
    · rename_i C' bm k0 k1 k2 k3 n k5 hm hs
      simp only [Bool.and_eq_true, beq_iff_eq, Bool.not_eq_true'] at h1
      obtain ⟨rfl, rfl, hdel, hdict, hve⟩ := h1
      obtain ⟨nm, bs, mro, ns, qn, hd, sn, sub, ab, col, del⟩ := cd
      dsimp only at hm hdel hdict
      subst hm hdel hdict
      have hsl : sl = #[k0, k1, k2, k3, some (.builtin "ValueError.__new__"), k5] := by
        obtain ⟨l⟩ := sl
        simp only at hs
        rw [hs]
      subst hsl
      exact ⟨nm, qn, ns, bs, bm, sn, sub, ab, col, dd, k0, k1, k2, k3, k5, ho, hve⟩
    · cases h1
  · cases h1
/-- the errors' base, without an __init__ of its own -/
theorem baseB_ok {K : PySem.W.Frag} {B : Addr} (h : baseB K B = true) : PySem.W.readsIn K B (.type "type") = true ∧ PySem.W.specialIn K (.ref B) "__getattribute__" = some (some (.builtin "type.__getattribute__")) ∧ PySem.W.findCls K (.ref B) (.type "type") "__init__" = some (.val (.builtin "ValueError.__init__")) := by
  obtain ⟨h1, h⟩ := ba h
  obtain ⟨h2, h3⟩ := ba h
  refine ⟨h1, eqO_ok h2, ?_⟩
  split at h3
  · rename_i v e
    rw [e, of_decide_eq_true h3]
  · cases h3
structure ErrK (K : PySem.W.Frag) (x : Str) (fls : List Str) : Prop where
  cls : OexC K (ga K x)
  ini : PySem.W.findIn K (.ref (ga K x)) "__init__" = some (some (.ref (fAd K (x, some "__init__"))))
  fn : PySem.W.typeIn K (.ref (fAd K (x, some "__init__"))) = some (.type "function")
  no : ∀ f ∈ fls, PySem.W.findIn K (.ref (ga K x)) f = some none
  xf : XfC K (ga K x)
theorem errB_ok {K : PySem.W.Frag} {x : Str} {fls : List Str} (h : errB K x fls = true) : ErrK K x fls := by
  obtain ⟨h1, h⟩ := ba h
  obtain ⟨h2, h⟩ := ba h
  obtain ⟨h3, h⟩ := ba h
  obtain ⟨h4, h5⟩ := ba h
  exact ⟨oexB_ok h1, eqO_ok h2, of_decide_eq_true h3, fun f hf => eqO_ok (List.all_eq_true.mp h4 f hf), xfB_ok h5⟩
/-- the tags: told apart -/
theorem tagsK_ok {K : PySem.W.Frag} {l : List Row} (h : tagsK K l = true) : TagsOk K (l.map fun q => (q.1, ga K q.2.1, q.2.2)) := by
  have one : ∀ q ∈ l, (decide (q.2.2.Nodup ∧ q.2.2.length < 1000)) = true ∧ ∀ r ∈ l, decide (PySem.W.exmOne K (.ref (ga K q.2.1)) (.ref (ga K r.2.1)) = some (decide (ga K q.2.1 = ga K r.2.1))) = true ∧ (decide (q = r) || !decide (ga K q.2.1 = ga K r.2.1)) = true := fun q hq => by
    obtain ⟨_, h2⟩ := ba (List.all_eq_true.mp h q hq)
    obtain ⟨h3, h4⟩ := ba h2
    exact ⟨h3, fun r hr => ba (List.all_eq_true.mp h4 r hr)⟩
  refine ⟨fun q mq r mr => ?_, fun q mq r mr e => ?_, fun q mq => ?_⟩
  · obtain ⟨q', hq, rfl⟩ := List.mem_map.mp mq
    obtain ⟨r', hr, rfl⟩ := List.mem_map.mp mr
    exact of_decide_eq_true ((one q' hq).2 r' hr).1
  · obtain ⟨q', hq, rfl⟩ := List.mem_map.mp mq
    obtain ⟨r', hr, rfl⟩ := List.mem_map.mp mr
    have z := ((one q' hq).2 r' hr).2
    rw [Bool.or_eq_true] at z
    rcases z with z | z
    · rw [of_decide_eq_true z]
    · have e : ga K q'.2.1 = ga K r'.2.1 := e
      simp [e] at z
  · obtain ⟨q', hq, rfl⟩ := List.mem_map.mp mq
    exact of_decide_eq_true (one q' hq).1
theorem tagsK_err {K : PySem.W.Frag} {l : List Row} (h : tagsK K l = true) {q : Row} (hq : q ∈ l) : ErrK K q.2.1 q.2.2 := errB_ok (ba (List.all_eq_true.mp h q hq)).1
theorem sys_of {K : PySem.W.Frag} (h : (K.lookup sysModules).isSome = true) : Sys K := Option.isSome_iff_exists.mp h
theorem nd_inj {α : Type} : ∀ {l : List α}, l.Nodup → ∀ {i j : Nat} {a : α}, l[i]? = some a → l[j]? = some a → i = j
  | [], _, i, _, _, h, _ => by simp at h
  | x :: l, hd, 0, 0, _, _, _ => rfl
  | x :: l, hd, 0, j + 1, a, h1, h2 => by
    simp at h1 h2
    subst h1
    exact absurd (List.mem_of_getElem? h2) (List.nodup_cons.mp hd).1
  | x :: l, hd, i + 1, 0, a, h1, h2 => by
    simp at h1 h2
    subst h2
    exact absurd (List.mem_of_getElem? h1) (List.nodup_cons.mp hd).1
  | x :: l, hd, i + 1, j + 1, a, h1, h2 => by
    simp at h1 h2
    rw [nd_inj (List.nodup_cons.mp hd).2 h1 h2]
/-- no code object as yet -/
theorem tabG0 {T : List (Addr × Str)} {H : Hp} (h : ∀ p ∈ T, H p.1 = some (.tbl #[])) : TabG T (fun _ => none) H := fun p hp => ⟨#[], h p hp, by first | trivial | decide | simp [TriplesOk], fun pos cv hc => by simp [codeAmong] at hc⟩
end Hx
/-! own objects: made, their fields read, isinstance -/
namespace Gd
open PySem PySem.Spec PyProof.Rows L2
section
variable {X : Cx} {CX : CXT} {k : Nat} {f C : Addr} {fd : FuncData} {ps : List Str} {sp : Sp} {dvs : List V} {ds : List Value} {E : XK} {x : Str} {p pos : Pos} {e : Expr} {es : List Expr} {t : TA}
theorem run_makeG {pins : List (Addr × Obj)} {σ : L2.St} {H : Hp} {st : Shared} {Q : VK} {us : List Value} {vs : List V} (M : Mk X.K C f) (F : FnG X.prog X.w X.K X.mg X.base CX k f fd ps sp) (hr : Room (k + 1) X.A) (hG : X.A.guards = some []) (hb : Binds X.K fd ps ds) (hd : Vals dvs ds) (hx : Passes CX X E)
    (I : Inv X pins σ H st) (rv : Vals vs us) (hs : ∀ o dx, H o = none → H dx = none → dx ≠ o → sp (.ref o :: (vs ++ dvs)) (upd (upd H dx (.own o)) o (.ins C dx [])) (fun v H2 => v = .non ∧ Q (.ref o) H2) E) :
    wpAny (model X.prog X.w) X.A (call (.ref C) us) (EP X pins σ Q) X.xe st := by
  obtain ⟨n, hn⟩ : ∃ n, n = st.heap.objs.size := ⟨_, rfl⟩
  have q0 := hs (n + 1) n (I.hok.fresh (by omega)) (I.hok.fresh (by omega)) (Nat.ne_of_lt (Nat.lt_succ_self n))
  subst hn
  have J := Inv.made (C := C) I
  have rr : Vals (V.ref (st.heap.objs.size + 1) :: (vs ++ dvs)) (Value.ref (st.heap.objs.size + 1) :: (us ++ ds)) := .cons rfl (rv.append hd)
  have ln : (Value.ref (st.heap.objs.size + 1) :: us ++ ds).length = ps.length := (rr.length.symm.trans (F.len _ _ _ _ q0))
  have step := F.run _ X.stack _ _ ⟨Value.ref (st.heap.objs.size + 1) :: us, []⟩ _ _ _ E (hr.make C us []) hG (J.env0.make C us []) (hb _ (Value.ref (st.heap.objs.size + 1) :: us) J.kIn ln) rr q0
  refine wpAny_call (make_map (f := f) I.kIn M.makes M.init (beq_iff_eq.mp M.fn) (codeAny_mono step fun r z w => ?_))
  match r, w with
  | .error e, w => exact hx pins σ _ _ e z J w
  | .ok (.ret u), w =>
    obtain ⟨v, H', J', rv', ev, q⟩ := J.after w
    subst ev
    exact ⟨rv', V.ref (st.heap.objs.size + 1), H', J', rfl, q⟩
theorem pe_makeG (M : Mk X.K C f) (F : FnG X.prog X.w X.K X.mg X.base CX k f fd ps sp) (hr : Room (k + 1) X.A) (hG : X.A.guards = some []) (hg : Gl X x) (hm : X.mg x = some (.ref C)) (hb : Binds X.K fd ps ds) (hd : Vals dvs ds) (hx : Passes CX X E)
    (ha : PA X (e :: es) t) (hdb : (x == ("__debug__" : Str)) = false := by decide) (he : starEach (e :: es) X.env = (false, eval e X.env) :: starEach es X.env := by rfl) (hpl : (backTo pos (starEach es X.env)).any (·.1) = false := by rfl) :
    PE X (.Call (.Name x p) (e :: es) [] pos) (tMake C sp dvs E t) :=
  ⟨fun pins st σ H Q I h => wpAny_Call_Name_kw (ld_glob I hg hm (PySem.W.callWith_K (h₀ := X.base) I.ok.mod.kin M.kp (thn (ha.run pos pins st σ H _ I h) fun us s1 ⟨vs, H1, I1, rv, q⟩ => ⟨I1.kIn, run_makeG M F hr hG hb hd hx I1 rv q⟩) he hpl) hdb)⟩
end
end Gd
namespace DL
open PySem PySem.Spec PyProof.Rows L2
def noO (sl : List Slot) : Bool := sl.all fun x => match x with
  | .no => true
  | .d _ => true
  | _ => false
theorem noO_at {sl : List Slot} (h : noO sl = true) {i : Nat} {x : Slot} (hx : sl[i]? = some x) : x = .no ∨ ∃ d, x = .d d := by
  have := List.all_eq_true.mp h x (List.mem_of_getElem? hx)
  cases x with
  | no => exact .inl rfl
  | d d => exact .inr ⟨d, rfl⟩
  | own o => cases this
  | pen => cases this
abbrev M1 (G H : Hp) : Cm := ⟨none, G, H, []⟩
theorem nice1 {G H : Hp} (e : Ex G H) : Nice (M1 G H) := ⟨e, fun _ _ q => (by cases q), fun _ q => (by cases q)⟩
theorem fr1 {G H : Hp} {b : Addr} : Fr0 (M1 G H) b := ⟨fun _ _ q => (by cases q), by simp⟩
/-- the state told anew, from here -/
theorem Rel.again {M : Cm} {s : S} {σ : L2.St} {G H H' : Hp} (r : Rel M s σ G H) (h : noO s.sl = true) (e : Ex G H') : Rel (M1 G H') s σ G H' where
  ex := e
  fr := fun b _ _ => ⟨rfl, rfl⟩
  pen := fun p L q => by cases q
  tab := ⟨fun p hp => (by cases hp), fun q hq => (by cases hq)⟩
  len := r.len
  sl := by
    intro i x ov h1 h2
    have q := r.sl i x ov h1 h2
    rcases noO_at h h1 with rfl | ⟨d, rfl⟩
    · exact True.intro
    · exact q
  inj := by
    intro i j ds es a h1
    rcases noO_at h h1 with z | ⟨d, z⟩ <;> cases z
theorem outO {M : Cm} {s : S} {σ : L2.St} {b : Addr} (h : noO s.sl = true) (f : Fr0 M b) : Out M s σ b := ⟨f, fun i es hi => by
  rcases noO_at h hi with z | ⟨d, z⟩ <;> cases z⟩
def postD (C0 : Addr) (nms : List Str) : List DE → List D → S → (D → Int → Prop) → Prop
  | [], acc, s, R => R (.obj C0 nms acc) s.c
  | φ :: r, acc, s, R => noO s.sl = true ∧ φ s fun d s1 => noO s1.sl = true ∧ postD C0 nms r (acc ++ [d]) s1 R
theorem putF_zip {f : Str} {y : V} : ∀ {ns : List Str} {vs : List V}, ns.length = vs.length → f ∉ ns → putF f y (ns.zip vs) = (ns ++ [f]).zip (vs ++ [y])
  | [], [], _, _ => rfl
  | n :: ns, v :: vs, h, hf => by
    have hn : ¬ n = f := fun z => hf (by simp [z])
    have ih := putF_zip (f := f) (y := y) (ns := ns) (vs := vs) (by simpa using h) (fun z => hf (by simp [z]))
    have e : putF f y ((n, v) :: ns.zip vs) = if n = f then (n, y) :: ns.zip vs else (n, v) :: putF f y (ns.zip vs) := rfl
    rw [List.zip_cons_cons, e, if_neg hn, ih]
    rfl
theorem pss_any' {X : Cx} {st : List Stmt} : PSs X st (fun D σ H => ∃ t, PSs X st t ∧ t D σ H) := ⟨fun pins s σ H D I h => by
  obtain ⟨t, p, h⟩ := h
  exact p.run pins s σ H D I h⟩
structure Po where
  f : Str
  st : Stmt
  φ : DE
section
variable {P : Program} {w : World} {K : PySem.W.Frag} {mg : Str → Option Value} {base : Heap} {k : Nat}
/-- what an object's maker does to the heap: all but the object stays -/
structure Made (G H : Hp) (o : Addr) (G' H' : Hp) : Prop where
  ex : Ex G G'
  sub : Ex G' H'
  go : G' o = none
  old : ∀ b, H b ≠ none → b ≠ o → H' b = H b ∧ G' b = G b
theorem Made.tr {G H G1 H1 G2 H2 : Hp} {o : Addr} (ho : H1 o ≠ none) (a : Made G H o G1 H1) (b : Made G1 H1 o G2 H2) : Made G H o G2 H2 := ⟨a.ex.tr b.ex, b.sub, b.go, fun x hx n => by
  obtain ⟨e1, e2⟩ := a.old x hx n
  obtain ⟨e3, e4⟩ := b.old x (by rw [e1]; exact hx) n
  exact ⟨e3.trans e1, e4.trans e2⟩⟩
theorem post_run {X : Cx} {C0 o dx : Addr} (hK : X.K = K) (cl : Cls K C0) : ∀ (po : List Po) (dn : List Str) (vs : List V) (acc : List D) (s : S) (σ : L2.St) (G H : Hp) (R : D → Int → Prop) (D0 : Ends) (M : Cm),
    (∀ p ∈ po, NoAttr K C0 p.f) → (dn ++ po.map Po.f).Nodup → (dn ++ po.map Po.f).length < 900 → (∀ p ∈ po, ∀ M, Nice M → M.pen = none → M.tabs = [] → ∃ t, PS X p.st (sFld K (tVar 0) t p.f) ∧ ESound M t p.φ) →
    Rel M s σ G H → (∃ z, σ[0]? = some (some (.ref o)) ∧ z = o) → H o = some (.ins C0 dx (dn.zip vs)) → G o = none → dn.length = vs.length → Vds G vs acc → noO s.sl = true →
    postD C0 (dn ++ po.map Po.f) (po.map Po.φ) acc s R →
    (∀ es us c G' H', R (.obj C0 (dn ++ po.map Po.f) es) c → Made G H o G' H' → H' o = some (.ins C0 dx ((dn ++ po.map Po.f).zip us)) → (dn ++ po.map Po.f).length = us.length → Vds G' us es → ∀ σ', D0.nx σ' H') →
    ∃ t, PSs X (po.map Po.st) t ∧ t D0 σ H
  | [], dn, vs, acc, s, σ, G, H, R, D0, M, _, _, _, _, r, _, ho, go, hl, hv, _, hp, hq => by
    refine ⟨_, pss_nil, ?_⟩
    have e : dn ++ ([] : List Po).map Po.f = dn := by simp
    rw [e] at hq
    have hp' : R (.obj C0 (dn ++ ([] : List Po).map Po.f) acc) s.c := hp
    rw [e] at hp'
    exact hq acc vs s.c G H hp' ⟨Ex.rf G, r.ex, go, fun _ _ _ => ⟨rfl, rfl⟩⟩ ho hl hv σ
  | q :: po, dn, vs, acc, s, σ, G, H, R, D0, M, na, nd, sm, hst, r, hσ, ho, go, hl, hv, hn, hp, hq => by
    obtain ⟨hp0, hp1⟩ : noO s.sl = true ∧ q.φ s fun d s1 => noO s1.sl = true ∧ postD C0 (dn ++ (q :: po).map Po.f) (po.map Po.φ) (acc ++ [d]) s1 R := hp
    obtain ⟨t1, p1, snd1⟩ := hst q (by simp) (M1 G H) (nice1 r.ex) rfl rfl
    refine ⟨_, C8.pss_cut p1 pss_any', ?_⟩
    refine ⟨fun σ1 H1 => ∃ t, PSs X (po.map Po.st) t ∧ t D0 σ1 H1, ?_, fun _ _ h => h⟩
    refine snd1 s σ G H _ _ (r.again hn r.ex) hp1 fun d s1 y G1 H1 h1 r1 g1 hy => ?_
    obtain ⟨hn1, h1⟩ := h1
    have stay : ∀ b, H b ≠ none → H1 b = H b ∧ G1 b = G b := fun b hb => g1.old b hb (outO hn fr1)
    have ho1 : H1 o = some (.ins C0 dx (dn.zip vs)) := (stay o (by rw [ho]; exact fun z => nomatch z)).1.trans ho
    have go1 : G1 o = none := (stay o (by rw [ho]; exact fun z => nomatch z)).2.trans go
    obtain ⟨_, hσ0, _⟩ := hσ
    have hf : q.f ∉ dn := fun z => by
      rw [List.map_cons, List.nodup_append] at nd
      exact nd.2.2 _ z _ (by simp) rfl
    refine ⟨_, hσ0, o, C0, dx, _, rfl, ho1, cl, na q (by simp), ?_, ?_⟩
    · rw [List.length_zip]
      rw [List.length_append] at sm
      omega
    · rw [putF_zip hl hf]
      have e : dn ++ (q :: po).map Po.f = (dn ++ [q.f]) ++ po.map Po.f := by simp
      rw [e] at nd sm h1 hq
      have ex2 : Ex G1 (upd H1 o (.ins C0 dx ((dn ++ [q.f]).zip (vs ++ [y])))) := ex_put r1.ex go1
      refine post_run hK cl po (dn ++ [q.f]) (vs ++ [y]) (acc ++ [d]) s1 σ G1 _ R D0 _ (fun p hp => na p (by simp [hp])) nd sm (fun p hp => hst p (by simp [hp])) (r1.again hn1 ex2) ⟨_, hσ0, rfl⟩ upd_at go1 (by simp [hl]) ((Vds.mono g1.ex hv).snoc hy) hn1 h1 fun es us c G' H' hR md e1 e2 e3 => hq es us c G' H' hR (Made.tr (G1 := G1) (H1 := upd H1 o (.ins C0 dx ((dn ++ [q.f]).zip (vs ++ [y])))) (by rw [upd_at]; exact fun z => nomatch z) ⟨g1.ex, ex2, go1, fun b hb n => ⟨(upd_ne n).trans (stay b hb).1, (stay b hb).2⟩⟩ md) e1 e2 e3
/-- statements ahead of what is read at the kit's level -/
structure EndsT (M : Cm) (G0 : Hp) (E : DEn) (Dn : Ends) (u : L2.St → Hp → Prop) : Prop where
  nx : ∀ s σ G H, E.nx s → Rel M s σ G H → Ex G0 G → u σ H
  rt : ∀ d s σ v G H, E.rt d s → Rel M s σ G H → Ex G0 G → Vd G v d → Dn.rt v H
  bk : ∀ s σ G H, E.bk s → Rel M s σ G H → Ex G0 G → Dn.bk σ H
  ct : ∀ s σ G H, E.ct s → Rel M s σ G H → Ex G0 G → Dn.ct σ H
variable {M : Cm} {F : Fam P w K mg base k}
variable (M F) in
def SDt (st tl : List Stmt) (ψ : DS) : Prop := ∀ u : TS, (∀ j, PSs (F.X j) tl u) → ∃ t, (∀ j, PSs (F.X j) (st ++ tl) t) ∧ ∀ (s : S) (σ : L2.St) (G H : Hp) (E : DEn) (Dn : Ends), Rel M s σ G H → ψ s E → EndsT M G E Dn (u Dn) → t Dn σ H
theorem st_nil {tl : List Stmt} : SDt M F [] tl dNext := fun u hu => ⟨u, hu, fun s σ G H E Dn r h e => e.nx s σ G H h r (Ex.rf G)⟩
theorem st_cons {x : Stmt} {st tl : List Stmt} {ψ χ : DS} (h1 : SD M F x ψ) (h2 : SDt M F st tl χ) : SDt M F (x :: st) tl (dSeq ψ χ) := fun u hu => by
  obtain ⟨t1, p1, a⟩ := h1
  obtain ⟨t2, p2, b⟩ := h2 u hu
  refine ⟨_, fun j => pss_cons (p1 j) (p2 j), fun s σ G H E Dn r h e => ?_⟩
  exact a s σ G H _ _ r h ⟨fun s1 σ1 G1 H1 h1 r1 x1 => b s1 σ1 G1 H1 _ _ r1 h1 ⟨fun s2 σ2 G2 H2 q r2 x2 => e.nx _ _ _ _ q r2 (x1.tr x2), fun d s2 σ2 v G2 H2 q r2 x2 hv => e.rt _ _ _ _ _ _ q r2 (x1.tr x2) hv, fun s2 σ2 G2 H2 q r2 x2 => e.bk _ _ _ _ q r2 (x1.tr x2), fun s2 σ2 G2 H2 q r2 x2 => e.ct _ _ _ _ q r2 (x1.tr x2)⟩, e.rt, e.bk, e.ct⟩
/-- an __init__'s promise -/
def spI (C0 : Addr) (fls : List Str) (Φ : DFn) : Sp := fun vs H Q E => ∃ (o dx : Addr) (us : List V) (ds : List D) (G : Hp) (R : D → Int → Prop) (RX : DX → Int → Prop), vs = .ref o :: us ∧ H o = some (.ins C0 dx []) ∧ G o = none ∧ Ex G H ∧ Vds G us ds ∧ Φ ds 0 R RX ∧
  (∀ es us' c G' H', R (.obj C0 fls es) c → Made G H o G' H' → H' o = some (.ins C0 dx (fls.zip us')) → fls.length = us'.length → Vds G' us' es → Q .non H') ∧ XS (M1 G H) E RX
@[simp] def slotsI (o : Addr) (n : Nat) (ds : List D) : List Slot := .d (.cls o) :: (ds.map .d ++ List.replicate (n - 1 - ds.length) .no)
theorem relI {N : List Str} {o : Addr} {us : List V} {ds : List D} {G H : Hp} (e : Ex G H) (hv : Vds G us ds) (hN : N ≠ []) : Rel (M1 G H) ⟨slotsI o N.length ds, 0⟩ (L2.start N (.ref o :: us)) G H := by
  have al : Al (M1 G H) G H (slotsI o N.length ds) (L2.start N (.ref o :: us)) := by
    unfold L2.start
    have e1 : N.length - (V.ref o :: us).length = N.length - 1 - ds.length := by rw [List.length_cons, hv.len]; omega
    rw [e1]
    exact .cons ⟨_, rfl, .cls o⟩ (fun _ e => nomatch e) (Al.app (al_d hv) (al_no _))
  exact ⟨e, fun _ _ _ => ⟨rfl, rfl⟩, fun p L q => (by cases q), ⟨fun p hp => (by cases hp), fun q hq => (by cases hq)⟩, al.len, fun i x ov h1 h2 => (al.get i x ov h1 h2).1, fun i j ds es a h1 h2 h3 h4 => absurd rfl ((al.get i _ _ h1 h3).2 ds)⟩
theorem init_of {qual : Str} {params : Arguments} {body : List Stmt} {scope : Scope} {f C0 : Addr} {fd : FuncData} {N ps : List Str} {Φ : DFn} {pre : List Stmt} {po : List Po} (Fd : FunD K "__init__" qual params body scope [] [] f fd) (Sc : FnScope N ps scope) (hN : N ≠ []) (hbd : body = pre ++ po.map Po.st) (cl : Cls K C0) (na : ∀ p ∈ po, NoAttr K C0 p.f) (nd : (po.map Po.f).Nodup) (sm : (po.map Po.f).length < 900)
    (hl : ∀ ds c R RX, Φ ds c R RX → ds.length + 1 = ps.length)
    (hb : ∀ (cdv : Value) (A : Around) (outer : List Env) (s : Shared) (H : Hp) (E : XK) (hr : Room k (A.deeper (envOfC qual scope s.heap.objs.size f cdv))) (hG : A.guards = some []) (M : Cm) (RX : DX → Int → Prop), M.pen = none → M.tabs = [] → Nice M → XS M E RX →
      ∃ ψ, SDt M (bodyF P w K mg base k N qual scope f cdv A outer s H E hr hG) pre (po.map Po.st) ψ ∧ ∀ o ds R, Φ ds 0 R RX → ψ ⟨slotsI o N.length ds, 0⟩ { nx := fun s => s.sl[0]? = some (.d (.cls o)) ∧ noO s.sl = true ∧ postD C0 (po.map Po.f) (po.map Po.φ) [] s R, rt := fun _ _ => False })
    (hp : ∀ (cdv : Value) (A : Around) (outer : List Env) (s : Shared) (H : Hp) (E : XK) (hr : Room k (A.deeper (envOfC qual scope s.heap.objs.size f cdv))) (hG : A.guards = some []), ∀ p ∈ po, ∀ M, Nice M → M.pen = none → M.tabs = [] → ∃ t, PS (bodyX P w K mg base N qual scope f cdv A outer s H E) p.st (sFld K (tVar 0) t p.f) ∧ ESound M t p.φ) :
    Gd.FnG P w K mg base (L2.CX P w) (k + 1) f fd ps (spI C0 (po.map Po.f) Φ) := by
  refine Gd.fnG_of Fd Sc (fun vs H Q E h => ?_) (fun cdv A outer s H vs Q E hr hG h => ?_)
  · obtain ⟨o, dx, us, ds, G, R, RX, rfl, _, _, _, hv, h, _⟩ := h
    rw [List.length_cons, hv.len]
    exact hl ds 0 R RX h
  · obtain ⟨o, dx, us, ds, G, R, RX, rfl, ho, go, e, hv, h, hq, hx⟩ := h
    obtain ⟨ψ, hs, pure_⟩ := hb cdv A outer s H E hr hG (M1 G H) RX rfl rfl (nice1 e) hx
    obtain ⟨t, pt, snd⟩ := hs (fun D σ H1 => ∃ t, PSs (bodyX P w K mg base N qual scope f cdv A outer s H E) (po.map Po.st) t ∧ t D σ H1) fun _ => pss_any'
    refine ⟨t, by rw [hbd]; exact pt (), snd _ _ G H _ _ (relI e hv hN) (pure_ o ds R h) ⟨fun s1 σ1 G1 H1 h1 r1 x1 => ?_, fun _ _ _ _ _ _ z => z.elim, fun _ _ _ _ z => z.elim, fun _ _ _ _ z => z.elim⟩⟩
    obtain ⟨n0, n1, h1⟩ := h1
    have stay : ∀ b, H b ≠ none → H1 b = H b ∧ G1 b = G b := fun b hb => r1.fr b hb fr1
    have ho1 : H1 o = some (.ins C0 dx []) := (stay o (by rw [ho]; exact fun z => nomatch z)).1.trans ho
    have go1 : G1 o = none := (stay o (by rw [ho]; exact fun z => nomatch z)).2.trans go
    obtain ⟨v0, hσ, hv0⟩ := r1.getD n0
    cases hv0
    refine post_run (K := K) (C0 := C0) (o := o) (dx := dx) rfl cl po [] [] [] s1 σ1 G1 H1 R _ _ na (by simpa using nd) (by simpa using sm) (hp cdv A outer s H E hr hG) r1 ⟨_, hσ, rfl⟩ ho1 go1 rfl .nil n1 (by simpa using h1) fun es us' c G' H' hR md e1 e2 e3 σ' => ?_
    exact hq es us' c G' H' (by simpa using hR) (Made.tr (G1 := G1) (H1 := H1) (by rw [ho1]; exact fun z => nomatch z) ⟨x1, r1.ex, go1, fun b hb _ => stay b hb⟩ md) (by simpa using e1) (by simpa using e2) e3
/-- C(e, ..): an own object is made -/
theorem e_make {kf : Nat} {f C0 : Addr} {fd : FuncData} {ps fls : List Str} {Φ : DFn} {x : Str} {p pos : Pos} {e : Expr} {es : List Expr} {ψ : DA} {RX : DX → Int → Prop} (Fn : Gd.FnG P w K mg base (L2.CX P w) kf f fd ps (spI C0 fls Φ)) (hk : kf + 1 ≤ k) (hm : mg x = some (.ref C0)) (mk : Mk K C0 f)
    (hb : Binds K fd ps []) (hE : XS M F.E RX) (ni : Nice M) (ha : EA M F (e :: es) ψ) (hg : ∀ j, Gl (F.X j) x) (hdb : (x == ("__debug__" : Str)) = false := by decide)
    (he : ∀ j, starEach (e :: es) (F.X j).env = (false, eval e (F.X j).env) :: starEach es (F.X j).env := by intro _; rfl) (hpl : ∀ j, (backTo pos (starEach es (F.X j).env)).any (·.1) = false := by intro _; rfl) : ED M F (.Call (.Name x p) (e :: es) [] pos) (dCall Φ RX ψ) := by
  obtain ⟨t, q, a⟩ := ha
  refine ⟨tMake C0 (spI C0 fls Φ) [] F.E t, fun j => ?_, fun s σ G H R Q rel h q => ?_⟩
  · have Fn' : Gd.FnG (F.X j).prog (F.X j).w (F.X j).K (F.X j).mg (F.X j).base (L2.CX P w) kf f fd ps (spI C0 fls Φ) := by rw [F.hP j, F.hw j, F.hK j, F.hm j, F.hb j]; exact Fn
    exact Gd.pe_makeG (by rw [F.hK j]; exact mk) Fn' ((F.hr j).mono hk) (F.hG j) (hg j) (by rw [F.hm j]; exact hm) (by rw [F.hK j]; exact hb) .nil (F.hx j) (q j) hdb (he j) (hpl j)
  · refine a s σ G H _ _ rel h fun ds s1 vs G1 H1 h1 r1 g1 hvs => ?_
    intro o dx ho hdx ne
    have go1 : G1 o = none := ex_none r1.ex ho
    have gd1 : G1 dx = none := ex_none r1.ex hdx
    obtain ⟨Hn, eHn⟩ : ∃ Hn, Hn = upd (upd H1 dx (.own o)) o (.ins C0 dx []) := ⟨_, rfl⟩
    have same : ∀ b, H1 b ≠ none → Hn b = H1 b := fun b hb => by
      rw [eHn]
      exact (upd_ne fun z => hb (by rw [z]; exact ho)).trans (upd_ne fun z => hb (by rw [z]; exact hdx))
    have rn : Rel M s1 σ G1 Hn := by
      rw [eHn]
      exact (r1.lay hdx).lay ((upd_ne ne.symm).trans ho)
    rw [← eHn]
    refine ⟨o, dx, vs, ds, G1, _, fun x _ => RX x s1.c, by simp, by rw [eHn]; exact upd_at, go1, rn.ex, hvs, h1, fun es us' c G' H2 hR md e1 e2 e3 => ⟨rfl, ?_⟩, fun y c cls d G' H' hy fo xo => ?_⟩
    · have old : ∀ b, H1 b ≠ none → H2 b = H1 b ∧ (upd G' o (.ins C0 dx (fls.zip us'))) b = G1 b := fun b hb => by
        have nb : b ≠ o := fun z => hb (by rw [z]; exact ho)
        obtain ⟨e4, e5⟩ := md.old b (by rw [same b hb]; exact hb) nb
        exact ⟨e4.trans (same b hb), (upd_ne nb).trans e5⟩
      have exG : Ex G1 (upd G' o (.ins C0 dx (fls.zip us'))) := fun b u hu => (old b (by rw [r1.ex b u hu]; exact fun z => nomatch z)).2.trans hu
      have exH : Ex H1 H2 := fun b u hu => (old b (by rw [hu]; exact fun z => nomatch z)).1.trans hu
      have r2 : Rel M s1 σ (upd G' o (.ins C0 dx (fls.zip us'))) H2 := r1.go exG (fun b hb _ => old b hb) (ex_fix' md.sub e1) (fun p L hp => by
        obtain ⟨p1, p2⟩ := r1.pen p L hp
        have hp0 : H1 p ≠ none := by
          obtain ⟨ns, a1, a2, a3, a4, a5, _⟩ := p1
          rw [a5]
          exact fun z => nomatch z
        exact ⟨p1.ex exH, (old p hp0).2.trans p2⟩) (r1.tab.ex r1.ex exH fun b hb => (old b hb).2)
      exact q _ _ _ _ _ hR r2 (g1.tr ⟨exG, fun b hb _ => old b hb, fun _ => Iff.rfl⟩) (.obj upd_at e2 (Vds.mono (fun b u hu => (upd_ne fun z => by rw [z, md.go] at hu; cases hu).trans hu) e3))
    · obtain ⟨r2, g2⟩ := rn.called (M' := M1 G1 Hn) rfl rfl (.inl ⟨rfl, rfl⟩) fo
      exact hE y _ cls d G' H' hy (r2.frOk ni) xo
/-- the class as a value -/
theorem e_cls {x : Str} {C0 : Addr} {pos : Pos} (hm : mg x = some (.ref C0)) (hg : ∀ j, Gl (F.X j) x) (hdb : (x == ("__debug__" : Str)) = false := by decide) : ED M F (.Name x pos) (dC (.cls C0)) := e_c (v := .ref C0) (fun j => pe_glob (hg j) (by rw [F.hm j]; exact hm) rfl hdb) fun _ => .cls C0
/-- e.f, a field of an own object -/
@[simp] def dFld (C0 : Addr) (f : Str) (φ : DE) : DE := fun s R => φ s fun d s1 => match d with
  | .obj C ns ds => C = C0 ∧ ∃ y, (ns.zip ds).lookup f = some y ∧ R y s1
  | _ => False
theorem lookup_zip {G : Hp} {f : Str} {y : D} : ∀ {ns : List Str} {vs : List V} {ds : List D}, ns.length = vs.length → Vds G vs ds → (ns.zip ds).lookup f = some y → ∃ v, (ns.zip vs).lookup f = some v ∧ Vd G v y
  | [], _, _, _, _, h => by cases h
  | n :: ns, v :: vs, d :: ds, hl, .cons a t, h => by
    rw [List.zip_cons_cons, List.lookup_cons] at h ⊢
    split at h
    · rename_i q
      cases h
      exact ⟨v, rfl, a⟩
    · rename_i q
      exact lookup_zip (by simpa using hl) t h
theorem e_fld {C0 : Addr} {f : Str} {e : Expr} {pos : Pos} {φ : DE} (cl : Cls K C0) (na : NoAttr K C0 f) (h : ED M F e φ) (hb : ∀ j, attributeBase e f (F.X j).env (eval e (F.X j).env) = eval e (F.X j).env := by intro _; rfl) : ED M F (.Attribute e f pos) (dFld C0 f φ) := by
  obtain ⟨t, p, a⟩ := h
  refine ⟨tFld K t f, fun j => by have := pe_fld (pos := pos) (p j) (hb j); rw [F.hK j] at this; exact this, fun s σ G H R Q rel h q => ?_⟩
  refine a s σ G H _ _ rel h fun d s1 v G1 H1 h1 r1 g1 hv => ?_
  split at h1
  · rename_i C ns ds
    obtain ⟨rfl, y, hy, h1⟩ := h1
    cases hv with
    | @obj a _ dx _ xs _ ho hl hvs =>
      obtain ⟨v, e1, e2⟩ := lookup_zip hl hvs hy
      exact ⟨a, _, dx, _, v, rfl, r1.ex _ _ ho, cl, na, e1, q _ _ _ _ _ h1 r1 g1 e2⟩
  · exact h1.elim
/-! isinstance, one own class in sight -/
structure IsK (K : PySem.W.Frag) (C0 : Addr) : Prop where
  ty : ∀ (H : Hp) (a dx : Addr) (fs : List (Str × V)), H a = some (.ins C0 dx fs) → TyOf K H (.ref a) (.ref C0)
  own : ∀ T ∈ isTs, PySem.W.kitOne K (.ref C0) (.type T) = some false
  bare : ∀ n ∈ ["NoneType", "bool", "int", "str", "tuple", "list", "dict"], PySem.W.kitOne K (.type n) (.ref C0) = some false
@[simp] def cIsiC (C0 : Addr) : List D → (D → Prop) → Prop := fun ds R => match ds with
  | [x, .ty T] => (match x with
    | .obj C _ _ => C = C0 ∧ T ∈ isTs ∧ R (.bl false)
    | x => (match tyN x with
      | some n => T ∈ isTs ∧ R (.bl (isiN n T))
      | none => False))
  | [x, .cls C] => C = C0 ∧ (match x with
    | .obj C _ _ => C = C0 ∧ R (.bl true)
    | x => (tyN x).isSome = true ∧ R (.bl false))
  | _ => False
theorem c_isiC {C0 : Addr} (ik : IsK K C0) : CSound (rIsi K) (cIsiC C0) := by
  intro G H xs ds R Q e hv h q _
  unfold cIsiC at h
  split at h
  · rename_i x T
    cases hv with
    | cons a1 t =>
    cases t with
    | cons a2 t =>
    cases a2
    cases t
    split at h
    · obtain ⟨rfl, hT, h⟩ := h
      cases a1 with
      | obj ho hl hvs => exact ⟨_, _, _, _, _, rfl, .ty T, .base (ik.ty _ _ _ _ (e _ _ ho)), ik.own T hT, q _ _ h (.bl _)⟩
    · split at h
      · rename_i n hn
        exact ⟨_, _, _, _, _, rfl, .ty T, tyX_of e a1 hn, kit_ty (kit_isi n (tyN_mem hn) T h.1), q _ _ h.2 (.bl _)⟩
      · exact h.elim
  · rename_i x C
    obtain ⟨rfl, h⟩ := h
    cases hv with
    | cons a1 t =>
    cases t with
    | cons a2 t =>
    cases a2
    cases t
    split at h
    · obtain ⟨rfl, h⟩ := h
      cases a1 with
      | obj ho hl hvs => exact ⟨_, _, _, _, _, rfl, .own _, .base (ik.ty _ _ _ _ (e _ _ ho)), by unfold PySem.W.kitOne; rw [if_pos (by simp)], q _ _ h (.bl _)⟩
    · obtain ⟨hn, h⟩ := h
      obtain ⟨n, hn⟩ := Option.isSome_iff_exists.mp hn
      exact ⟨_, _, _, _, _, rfl, .own _, tyX_of e a1 hn, ik.bare n (tyN_mem hn), q _ _ h (.bl _)⟩
  · exact h.elim
theorem e_isiC {C0 : Addr} (ik : IsK K C0) {p pos : Pos} {a b : Expr} {ψ : DA} (hm : mg "isinstance" = none) (ha : EA M F [a, b] ψ) (hg : ∀ j, Gl (F.X j) "isinstance") (he : ∀ j, starEach [a, b] (F.X j).env = (false, eval a (F.X j).env) :: starEach [b] (F.X j).env := by intro _; rfl) (hpl : ∀ j, (backTo pos (starEach [b] (F.X j).env)).any (·.1) = false := by intro _; rfl) :
    ED M F (.Call (.Name "isinstance" p) [a, b] [] pos) (dCB (cIsiC C0) ψ) := e_callB (fun j => by have := call_isi (X := F.X j); rw [F.hK j] at this; exact this) (c_isiC ik) hm boot_isi ha hg (by decide) (by decide) he hpl
end
end DL
/-! zip, gcd, x in l, range(a, b) -/
namespace DL
open PySem PySem.Spec PyProof.Rows L2
section
variable {P : Program} {w : World} {K : PySem.W.Frag} {mg : Str → Option Value} {base : Heap} {k : Nat} {M : Cm} {F : Fam P w K mg base k}
/-! ### gcd -/
@[simp] def cGcd : List D → (D → Prop) → Prop := fun ds R => match ds with
  | [.int a, .int b] => R (.int (Nat.gcd a.natAbs b.natAbs : Nat))
  | _ => False
theorem c_gcd : CSound rGcd cGcd := by
  intro G H xs ds R Q e hv h q _
  unfold cGcd at h
  split at h
  · rename_i a b
    cases hv with
    | cons a1 t =>
      cases t with
      | cons a2 t =>
        cases t
        cases a1
        cases a2
        exact ⟨a, b, rfl, q _ _ h (.int _)⟩
  · exact h.elim
theorem e_gcd {x : Str} {p pos : Pos} {a b : Expr} {ψ : DA} (hm : mg x = some (.builtin "math.gcd")) (ha : EA M F [a, b] ψ) (hg : ∀ j, Gl (F.X j) x) (hdb : (x == ("__debug__" : Str)) = false := by decide) (he : ∀ j, starEach [a, b] (F.X j).env = (false, eval a (F.X j).env) :: starEach [b] (F.X j).env := by intro _; rfl) (hpl : ∀ j, (backTo pos (starEach [b] (F.X j).env)).any (·.1) = false := by intro _; rfl) :
    ED M F (.Call (.Name x p) [a, b] [] pos) (dCB cGcd ψ) := by
  obtain ⟨t, q, aa⟩ := ha
  exact ⟨_, fun j => pe_callBfun cr_gcd (hg j) (by rw [F.hm j]; exact hm) (q j) hdb (he j) (hpl j), cb_sound c_gcd aa⟩
/-! ### zip -/
@[simp] def zipL : List D → List D → List D
  | a :: as, b :: bs => .tup [a, b] :: zipL as bs
  | _, _ => []
theorem zipL_len : ∀ as bs : List D, (zipL as bs).length = min as.length bs.length
  | [], bs => by simp
  | a :: as, [] => by simp
  | a :: as, b :: bs => by
    have := zipL_len as bs
    simp only [zipL, List.length_cons, this]
    omega
theorem zipL_get : ∀ (as bs : List D) (i : Nat) (a b : D), as[i]? = some a → bs[i]? = some b → (zipL as bs)[i]? = some (.tup [a, b])
  | [], _, _, _, _, h, _ => by cases h
  | _ :: _, [], _, _, _, _, h => by cases h
  | _ :: _, _ :: _, 0, _, _, h, k => by cases h; cases k; rfl
  | _ :: as, _ :: bs, i + 1, a, b, h, k => zipL_get as bs i a b h k
theorem over_zipT {G : Hp} {a b : Addr} {vs us : List V} {ds es : List D} (ha : G a = some (.tup vs)) (hb : G b = some (.tup us)) (hv : Vds G vs ds) (hu : Vds G us es) : Over (RZ.ItzT K a b) G (zipL ds es) := by
  intro G' H' e e2
  have q : SqT K H' a vs := .inl (.inl (e2 _ _ (e _ _ ha)))
  have q' : SqT K H' b us := .inl (.inl (e2 _ _ (e _ _ hb)))
  rw [zipL_len]
  refine ⟨fun i hi => ?_, vs, us, q, q', by rw [hv.len, hu.len]; omega⟩
  obtain ⟨d, hd, v, hv1, hv2⟩ := vds_at hv (i := i) (by omega)
  obtain ⟨d', hd', v', hv1', hv2'⟩ := vds_at hu (i := i) (by omega)
  refine ⟨⟨vs, us, v, v', q, q', hv1, hv1'⟩, fun x H'' y => ⟨_, zipL_get ds es i d d' hd hd', .inr ?_⟩⟩
  obtain ⟨T, x', y', rfl, hT, rfl, y1, y2⟩ := y
  have z1 := y1 vs q
  rw [hv1] at z1
  cases z1
  have z2 := y2 us q'
  rw [hv1'] at z2
  cases z2
  have ex := e.tr (ex_new (o := .tup [v, v']) (ex_none e2 hT))
  exact ⟨T, _, hT, rfl, .tup upd_at (.cons (Vd.mono ex hv2) (.cons (Vd.mono ex hv2') .nil))⟩
theorem over_zipL {G : Hp} {a b : Addr} {vs us : List V} {ds es : List D} (ha : G a = some (.lst vs)) (hb : G b = some (.lst us)) (hv : Vds G vs ds) (hu : Vds G us es) : Over (Itz K a b) G (zipL ds es) := by
  intro G' H' e e2
  have q : SqL K H' a vs := .inl (.inl (e2 _ _ (e _ _ ha)))
  have q' : SqL K H' b us := .inl (.inl (e2 _ _ (e _ _ hb)))
  rw [zipL_len]
  refine ⟨fun i hi => ?_, vs, us, q, q', by rw [hv.len, hu.len]; omega⟩
  obtain ⟨d, hd, v, hv1, hv2⟩ := vds_at hv (i := i) (by omega)
  obtain ⟨d', hd', v', hv1', hv2'⟩ := vds_at hu (i := i) (by omega)
  refine ⟨⟨vs, us, v, v', q, q', hv1, hv1'⟩, fun x H'' y => ⟨_, zipL_get ds es i d d' hd hd', .inr ?_⟩⟩
  obtain ⟨T, x', y', rfl, hT, rfl, y1, y2⟩ := y
  have z1 := y1 vs q
  rw [hv1] at z1
  cases z1
  have z2 := y2 us q'
  rw [hv1'] at z2
  cases z2
  have ex := e.tr (ex_new (o := .tup [v, v']) (ex_none e2 hT))
  exact ⟨T, _, hT, rfl, .tup upd_at (.cons (Vd.mono ex hv2) (.cons (Vd.mono ex hv2') .nil))⟩
@[simp] def dZipX (ψ : DA) : DA := fun s R => ψ s fun ds s1 => match ds with
  | [.tup xs, .tup ys] => R (zipL xs ys) s1
  | [.lst xs, .lst ys] => R (zipL xs ys) s1
  | _ => False
theorem id_zipX {e e2 : Expr} {p pos tpos : Pos} {elts : List Expr} {kk : Nat} {ψ : DA} (h : EA M F [e, e2] ψ) (hg : ∀ j, Gl (F.X j) "zip") (hm : mg "zip" = none) (hs : ∀ j, starEach [e, e2] (F.X j).env = (false, eval e (F.X j).env) :: starEach [e2] (F.X j).env := by intro _; rfl) (hpl : ∀ j, (backTo pos (starEach [e2] (F.X j).env)).any (·.1) = false := by intro _; rfl) :
    ID M F (.Tuple elts kk tpos) (.Call (.Name "zip" p) [e, e2] [] pos) (dZipX ψ) := by
  obtain ⟨t, q, b⟩ := h
  refine ⟨RZ.iZipA K t, fun j => by have := RZ.pi_zipA (p := p) (pos := pos) (tpos := tpos) (elts := elts) (kk := kk) (hg j) (by rw [F.hm j]; exact hm) (q j) (hs j) (hpl j); rw [F.hK j] at this; exact this, fun s σ G H R Q rel h q => ?_⟩
  refine b s σ G H _ _ rel h fun ds s1 vs G1 H1 h1 r1 g1 hvs => ?_
  split at h1
  · cases hvs with
    | cons a t =>
    cases t with
    | cons a' t =>
      cases t
      cases a with
      | @tup x us _ hp hv =>
      cases a' with
      | @tup x' us' _ hp' hv' => exact ⟨x, x', us, us', rfl, .inr ⟨.inl (.inl (r1.ex _ _ hp)), .inl (.inl (r1.ex _ _ hp')), q _ _ _ _ _ h1 r1 g1 (over_zipT hp hp' hv hv')⟩⟩
  · cases hvs with
    | cons a t =>
    cases t with
    | cons a' t =>
      cases t
      cases a with
      | @lst x us _ hp hv =>
      cases a' with
      | @lst x' us' _ hp' hv' => exact ⟨x, x', us, us', rfl, .inl ⟨.inl (.inl (r1.ex _ _ hp)), .inl (.inl (r1.ex _ _ hp')), q _ _ _ _ _ h1 r1 g1 (over_zipL hp hp' hv hv')⟩⟩
  · exact h1.elim
/-! ### three names at once -/
theorem FrV.keep {s1 s2 : S} {σ : L2.St} {G1 H1 G2 H2 : Hp} {x : Slot} {v : V} (h : FrV M s1 σ G1 H1 x v) (g : Go M σ s1 G1 H1 s2 G2 H2) : FrV M s2 σ G2 H2 x v := by
  cases x with
  | no => exact h
  | pen => exact h
  | d x => exact Vd.mono g.ex h
  | own ds =>
    obtain ⟨c, vs, rfl, k1, k2, k3, k4, k5, k6⟩ := h
    obtain ⟨e1, e2⟩ := g.old c (by rw [k1]; exact fun z => nomatch z) ⟨k5.fr, k6⟩
    refine ⟨c, vs, rfl, e1.trans k1, k2.mono g.ex, e2.trans k3, k4, k5, fun l es hl => ?_⟩
    obtain ⟨es', hl'⟩ := (g.own l).mp ⟨es, hl⟩
    exact k6 l es' hl'
/-- past the writing of a slot with another value -/
theorem FrV.past {s : S} {σ : L2.St} {G H : Hp} {x y : Slot} {v u : V} {i : Nat} (hy : FrV M s σ G H y u) (ne : ∀ ds es, x = .own ds → y = .own es → v ≠ u) : FrV M (s.set i x) (σ.set i (some v)) G H y u := by
  cases y with
  | no => exact hy
  | pen => exact hy
  | d y => exact hy
  | own es =>
    obtain ⟨c, vs, rfl, k1, k2, k3, k4, k5, k6⟩ := hy
    refine ⟨c, vs, rfl, k1, k2, k3, k4, k5, fun l fs hl hz => ?_⟩
    have hl : (s.sl.set i x)[l]? = some (.own fs) := hl
    rw [List.getElem?_set] at hl hz
    by_cases e : i = l
    · rw [if_pos e] at hl hz
      split at hl
      · cases hl
        split at hz
        · exact ne _ _ rfl rfl (Option.some.inj (Option.some.inj hz))
        · cases hz
      · cases hl
    · rw [if_neg e] at hl hz
      exact k6 l fs hl hz
/-- what is told and a value that was free when it was told -/
theorem FrV.ne {s : S} {σ : L2.St} {G H : Hp} {x y : Slot} {v u : V} {es : OD} (hx : FrV M s σ G H x v) (hy : ∀ es, y = .own es → ∃ c, u = .ref c ∧ H c = none) : ∀ ds es, x = .own ds → y = .own es → v ≠ u := by
  intro ds es e1 e2 e
  subst e1
  obtain ⟨c, rfl, hc⟩ := hy es e2
  obtain ⟨a, o, e3, k1, _⟩ := hx
  rw [e] at e3
  cases e3
  rw [hc] at k1
  cases k1
@[simp] def dPar3 (i j l : Nat) (φ ψ χ : DP) : DS := fun s E => φ s fun x s1 => ψ s1 fun y s2 => χ s2 fun z s3 => E.nx (((s3.set i x).set j y).set l z)
theorem s_par3 {i j l : Nat} {a b c : Expr} {φ ψ χ : DP} {st : Stmt} (h1 : EP M F a φ) (h2 : EP M F b ψ) (h3 : EP M F c χ) (hst : ∀ t u v : TE, (∀ q, PE (F.X q) a t) → (∀ q, PE (F.X q) b u) → (∀ q, PE (F.X q) c v) → ∀ q, PS (F.X q) st (tPar3 i j l (tCons t (tCons u (tCons v tNil))))) : SD M F st (dPar3 i j l φ ψ χ) := by
  obtain ⟨t, p, a⟩ := h1
  obtain ⟨u, p2, b⟩ := h2
  obtain ⟨v, p3, c⟩ := h3
  refine ⟨_, hst t u v p p2 p3, fun s σ G H E Dn rel h en => ?_⟩
  refine a s σ G H _ _ rel h fun x s1 v1 G1 H1 h1 r1 g1 fx nx => ?_
  refine b s1 σ G1 H1 _ _ r1 h1 fun y s2 v2 G2 H2 h2 r2 g2 fy ny => ?_
  refine c s2 σ G2 H2 _ _ r2 h2 fun z s3 v3 G3 H3 h3 r3 g3 fz nz => ⟨v1, v2, v3, rfl, ?_⟩
  have n12 := fx.ne (es := .l []) ny
  have n13 := (fx.keep g2).ne (es := .l []) nz
  have n23 := fy.ne (es := .l []) nz
  have q1 := ((fx.keep g2).keep g3).set r3 (i := i)
  have q2 := ((fy.keep g3).past (i := i) n12).set q1 (i := j)
  have q3 := ((fz.past (i := i) n13).past (i := j) n23).set q2 (i := l)
  exact en.nx _ _ _ _ h3 q3 ((g1.ex.tr g2.ex).tr g3.ex)
/-! ### range(a, b) -/
@[simp] def rgAB (a b : Int) : List D := (List.range (b - a).toNat).map fun i => .int (a + Int.ofNat i)
@[simp] def dRng2 (ψ : DA) : DA := fun s R => ψ s fun ds s1 => match ds with
  | [.int a, .int b] => (-10000 ≤ a ∧ a ≤ 10000) ∧ (-10000 ≤ b ∧ b ≤ 10000) ∧ R (rgAB a b) s1
  | _ => False
theorem over_rng2 {G : Hp} {a : Int} {n : Nat} : Over (Itr a n) G ((List.range n).map fun i => .int (a + Int.ofNat i)) := by
  intro G' H' e e2
  rw [List.length_map, List.length_range]
  refine ⟨fun i hi => ⟨hi, fun x H'' y => ⟨.int (a + Int.ofNat i), ?_, .inl ?_⟩⟩, Nat.le_refl _⟩
  · rw [List.getElem?_map, List.getElem?_range hi]
    rfl
  · obtain ⟨y1, y2⟩ := y
    subst y1 y2
    exact ⟨rfl, .int _⟩
theorem id_rng2 {tg a b : Expr} {p pos : Pos} {ψ : DA} (h : EA M F [a, b] ψ) (hg : ∀ j, Gl (F.X j) "range") (hm : mg "range" = none) (hs : ∀ j, starEach [a, b] (F.X j).env = [(false, eval a (F.X j).env), (false, eval b (F.X j).env)] := by intro _; rfl) (hs2 : ∀ j, starEach [b] (F.X j).env = [(false, eval b (F.X j).env)] := by intro _; rfl) : ID M F tg (.Call (.Name "range" p) [a, b] [] pos) (dRng2 ψ) := by
  obtain ⟨t, q, b⟩ := h
  refine ⟨_, fun j => pi_range2 (hg j) (by rw [F.hm j]; exact hm) (q j) (hs j) (hs2 j), fun s σ G H R Q rel h q => ?_⟩
  refine b s σ G H _ _ rel h fun ds s1 vs G1 H1 h1 r1 g1 hvs => ?_
  split at h1
  · rename_i x y
    obtain ⟨b1, b2, h1⟩ := h1
    cases hvs with
    | cons a1 a2 =>
    cases a2 with
    | cons a2 a3 =>
      cases a1
      cases a2
      cases a3
      exact ⟨x, y, rfl, ⟨by omega, by omega, by omega, by omega⟩, q _ _ _ _ _ h1 r1 g1 over_rng2⟩
  · exact h1.elim
/-! ### x in l -/
@[simp] def vF : D → Option V
  | .non => some .non
  | .bl b => some (.bl b)
  | .int i => some (.int i)
  | .str x => some (.str x)
  | _ => none
@[simp] def vFs : List D → Option (List V)
  | [] => some []
  | d :: ds => match vF d, vFs ds with
    | some v, some vs => some (v :: vs)
    | _, _ => none
theorem vF_ok {G : Hp} {d : D} {v u : V} (h : Vd G v d) (e : vF d = some u) : v = u ∧ flatV u = true := by
  cases d <;> cases e <;> cases h <;> exact ⟨rfl, rfl⟩
theorem vFs_ok {G : Hp} : ∀ {ds : List D} {vs us : List V}, Vds G vs ds → vFs ds = some us → vs = us ∧ us.all flatV = true
  | [], _, _, .nil, e => by cases e; exact ⟨rfl, rfl⟩
  | d :: ds, _, _, .cons h t, e => by
    unfold vFs at e
    split at e
    · rename_i u us e1 e2
      cases e
      obtain ⟨rfl, f1⟩ := vF_ok h e1
      obtain ⟨rfl, f2⟩ := vFs_ok t e2
      exact ⟨rfl, by rw [List.all_cons, f1, f2]; rfl⟩
    · cases e
@[simp] def oIn (neg : Bool) : DO := fun a b R => match b with
  | .tup xs => ∃ v vs, vF a = some v ∧ vFs xs = some vs ∧ R (.bl (neg != inV v vs))
  | .lst xs => ∃ v vs, vF a = some v ∧ vFs xs = some vs ∧ R (.bl (neg != inV v vs))
  | _ => False
theorem o_in (neg : Bool) : OSound (rIn K neg) (oIn neg) := by
  intro G H x y a b R Q e hx hy h q q2
  have fin : ∀ (v : V) (vs : List V), (if neg then !inV v vs else inV v vs) = (neg != inV v vs) := by
    intro v vs
    cases neg <;> cases inV v vs <;> rfl
  unfold oIn at h
  split at h
  · obtain ⟨v, vs, e1, e2, h⟩ := h
    obtain ⟨rfl, f1⟩ := vF_ok hx e1
    cases hy with
    | @tup p us _ hp hv =>
      obtain ⟨rfl, f2⟩ := vFs_ok hv e2
      exact ⟨p, _, rfl, .inr (.inl (.inl (e _ _ hp))), f1, f2, q _ _ h (by rw [fin]; exact .bl _)⟩
  · obtain ⟨v, vs, e1, e2, h⟩ := h
    obtain ⟨rfl, f1⟩ := vF_ok hx e1
    cases hy with
    | @lst p us _ hp hv =>
      obtain ⟨rfl, f2⟩ := vFs_ok hv e2
      exact ⟨p, _, rfl, .inl (.inl (.inl (e _ _ hp))), f1, f2, q _ _ h (by rw [fin]; exact .bl _)⟩
  · exact h.elim
theorem c_in : Cmp F .In (oIn false) := ⟨rIn K false, fun j => by have := op_in_seq (X := F.X j); rw [F.hK j] at this; exact this, o_in false⟩
theorem c_notin : Cmp F .NotIn (oIn true) := ⟨rIn K true, fun j => by have := op_notIn_seq (X := F.X j); rw [F.hK j] at this; exact this, o_in true⟩
/-! ### x in T, T a tuple of the module -/
@[simp] def oInK (a : Addr) (ns : List Int) (neg : Bool) : DO := fun x b R => match b with
  | .cls a' => a' = a ∧ ∃ v, vF x = some v ∧ R (.bl (neg != inV v (ns.map .int)))
  | _ => False
theorem flat_ints : ∀ ns : List Int, (ns.map V.int).all flatV = true
  | [] => rfl
  | n :: ns => by rw [List.map_cons, List.all_cons, flat_ints ns]; rfl
theorem o_inK {a : Addr} {ns : List Int} (neg : Bool) (hT : ∀ H, SqT K H a (ns.map V.int)) : OSound (rIn K neg) (oInK a ns neg) := by
  intro G H x y d b R Q e hx hy h q q2
  have fin : ∀ (v : V) (vs : List V), (if neg then !inV v vs else inV v vs) = (neg != inV v vs) := by
    intro v vs
    cases neg <;> cases inV v vs <;> rfl
  unfold oInK at h
  split at h
  · obtain ⟨rfl, v, e1, h⟩ := h
    obtain ⟨rfl, f1⟩ := vF_ok hx e1
    cases hy
    exact ⟨_, _, rfl, .inr (hT H), f1, flat_ints ns, q _ _ h (by rw [fin]; exact .bl _)⟩
  · exact h.elim
theorem c_inK {a : Addr} {ns : List Int} (hT : ∀ H, SqT K H a (ns.map V.int)) : Cmp F .In (oInK a ns false) := ⟨rIn K false, fun j => by have := op_in_seq (X := F.X j); rw [F.hK j] at this; exact this, o_inK false hT⟩
theorem c_notinK {a : Addr} {ns : List Int} (hT : ∀ H, SqT K H a (ns.map V.int)) : Cmp F .NotIn (oInK a ns true) := ⟨rIn K true, fun j => by have := op_notIn_seq (X := F.X j); rw [F.hK j] at this; exact this, o_inK true hT⟩
/-! ### new lists: l + m, l * n -/
@[simp] def lAdd (φ ψ : DE) : DA := fun s R => φ s fun d s1 => ψ s1 fun d2 s2 => match d, d2 with
  | .lst xs, .lst ys => xs.length + ys.length ≤ 10000 ∧ R (xs ++ ys) s2
  | _, _ => False
theorem l_add {x y : Expr} {pos} {φ ψ : DE} (h1 : ED M F x φ) (h2 : ED M F y ψ) : EL M F (.BinOp x .Add y pos) (lAdd φ ψ) := by
  obtain ⟨t, p, a⟩ := h1
  obtain ⟨u, p2, b⟩ := h2
  refine ⟨_, fun j => pe_op op_cat (p j) (p2 j), fun s σ G H R Q rel h q => ?_⟩
  refine a s σ G H _ _ rel h fun d s1 v G1 H1 h1 r1 g1 hv => ?_
  refine b s1 σ G1 H1 _ _ r1 h1 fun d2 s2 v2 G2 H2 h2 r2 g2 hv2 => ?_
  split at h2
  · rename_i xs ys
    cases hv with
    | @lst p vs _ hp hv =>
    cases hv2 with
    | @lst p2 us _ hp2 hu =>
      refine ⟨p, p2, vs, us, rfl, rfl, (r2.ex _ _ (g2.ex _ _ hp)), r2.ex _ _ hp2, by rw [hv.len, hu.len, sizeLine_eq]; have := h2.1; omega, fun l hl => ?_⟩
      obtain ⟨f1, f2, f3, f4⟩ := r2.fresh hl
      exact q _ _ _ _ _ _ h2.2 (r2.lay hl) ((g1.tr g2).tr (.lay hl)) ((Vds.mono g2.ex hv).app hu) ((g1.tr g2).none rel r2 hl) upd_at f1 f2 f3 f4
  · exact h2.elim
/-- one's own list, another one behind it -/
@[simp] def lAddO (i : Nat) (ψ : DE) : DA := fun s R => isL s i ∧ ψ s fun d s1 => match d, s1.sl[i]? with
  | .lst ys, some (.own (.l xs)) => xs.length + ys.length ≤ 10000 ∧ R (xs ++ ys) s1
  | _, _ => False
theorem l_addO (i : Nat) {x y : Expr} {pos} {ψ : DE} (hv : ∀ j, PE (F.X j) x (tVar i)) (h2 : ED M F y ψ) : EL M F (.BinOp x .Add y pos) (lAddO i ψ) := by
  obtain ⟨u, p2, b⟩ := h2
  refine ⟨_, fun j => pe_op op_cat (hv j) (p2 j), fun s σ G H R Q rel h q => ?_⟩
  obtain ⟨h0, h⟩ := h
  obtain ⟨ds0, hi0⟩ := isL_at h0
  obtain ⟨a, vs0, x1, x2, x3, _⟩ := rel.getL hi0
  refine ⟨_, x1, ?_⟩
  refine b s σ G H _ _ rel h fun d2 s2 v2 G2 H2 h2 r2 g2 hv2 => ?_
  split at h2
  · rename_i ys xs hi
    obtain ⟨a', vs, y1, y2, y3, _⟩ := r2.getL hi
    rw [x1] at y1
    cases y1
    cases hv2 with
    | @lst p2 us _ hp2 hu =>
      refine ⟨a, p2, vs, us, rfl, rfl, y2, r2.ex _ _ hp2, by rw [y3.len, hu.len, sizeLine_eq]; have := h2.1; omega, fun l hl => ?_⟩
      obtain ⟨f1, f2, f3, f4⟩ := r2.fresh hl
      exact q _ _ _ _ _ _ h2.2 (r2.lay hl) (g2.tr (.lay hl)) (y3.app hu) (g2.none rel r2 hl) upd_at f1 f2 f3 f4
  · exact h2.elim
@[simp] def lMul (φ ψ : DE) : DA := fun s R => φ s fun d s1 => ψ s1 fun d2 s2 => match d, d2 with
  | .lst xs, .int n => n < 10000 ∧ -10000 < n ∧ xs.length * n.toNat ≤ 10000 ∧ R (List.replicate n.toNat xs).flatten s2
  | _, _ => False
theorem l_mul {x y : Expr} {pos} {φ ψ : DE} (h1 : ED M F x φ) (h2 : ED M F y ψ) : EL M F (.BinOp x .Mult y pos) (lMul φ ψ) := by
  obtain ⟨t, p, a⟩ := h1
  obtain ⟨u, p2, b⟩ := h2
  refine ⟨_, fun j => pe_op op_rep (p j) (p2 j), fun s σ G H R Q rel h q => ?_⟩
  refine a s σ G H _ _ rel h fun d s1 v G1 H1 h1 r1 g1 hv => ?_
  refine b s1 σ G1 H1 _ _ r1 h1 fun d2 s2 v2 G2 H2 h2 r2 g2 hv2 => ?_
  split at h2
  · rename_i xs n
    obtain ⟨b1, b2, b3, h2⟩ := h2
    cases hv2
    cases hv with
    | @lst p vs _ hp hv =>
      refine ⟨p, n, vs, rfl, rfl, r2.ex _ _ (g2.ex _ _ hp), by omega, by omega, by rw [hv.len, sizeLine_eq]; omega, fun l hl => ?_⟩
      obtain ⟨f1, f2, f3, f4⟩ := r2.fresh hl
      exact q _ _ _ _ _ _ h2 (r2.lay hl) ((g1.tr g2).tr (.lay hl)) ((Vds.mono g2.ex hv).rep _) ((g1.tr g2).none rel r2 hl) upd_at f1 f2 f3 f4
  · exact h2.elim
theorem s_par3R {i j l : Nat} {a b c : Expr} {φ ψ χ : DP} {st : Stmt} (hst : ∀ t u v : TE, (∀ q, PE (F.X q) a t) → (∀ q, PE (F.X q) b u) → (∀ q, PE (F.X q) c v) → ∀ q, PS (F.X q) st (tPar3 i j l (tCons t (tCons u (tCons v tNil))))) (h1 : EP M F a φ) (h2 : EP M F b ψ) (h3 : EP M F c χ) : SD M F st (dPar3 i j l φ ψ χ) := s_par3 h1 h2 h3 hst
end
end DL
/-! the head of a law: facts of own classes, of modules' functions, of tuples of ints -/
namespace Hx
open PySem PySem.Spec PyProof.Rows L2 He DL
theorem isK_of {K : PySem.W.Frag} {C : Addr} (h : isKB K C = true) (c : Cls K C) : IsK K C := by
  obtain ⟨h1, h⟩ := ba h
  obtain ⟨h2, h⟩ := ba h
  obtain ⟨h3, h⟩ := ba h
  obtain ⟨h4, h⟩ := ba h
  obtain ⟨h5, h6⟩ := ba h
  exact ⟨fun H a dx fs e => .ins e c (eqO_ok h1) (eqO_ok h2) (of_decide_eq_true h3) (of_decide_eq_true h4), fun T hT => of_decide_eq_true (List.all_eq_true.mp h5 T hT), fun n hn => of_decide_eq_true (List.all_eq_true.mp h6 n hn)⟩
/-- a module's name is a built-in function -/
theorem mgB_ok {K : PySem.W.Frag} {h : Heap} {mg : Str → Option Value} (X : K.In h) (G : h.Ns mainGlobals mg) {x : Str} {f : String} (c : mgB K x f = true) : mg x = some (.builtin f) := PySem.W.mg_of X G (eqO_ok c)
theorem dv_ints (K : PySem.W.Frag) (l : List Int) : (l.map Dv.int).map (Dv.v K) = l.map V.int := by
  rw [List.map_map]
  rfl
theorem tupI_ok {K : PySem.W.Frag} {x : Str} {l : List Int} (h : tupB K x (l.map Dv.int) = true) (H : Hp) : SqT K H (ga K x) (l.map V.int) := by
  have := tupB_ok h H
  rwa [dv_ints] at this
end Hx
/-! what the defs compute, as transformers -/
namespace K74
open PySem PySem.Spec PyProof.Rows L2 DL
def Ψ__law_draw (_ : Gm) : DFn := Φ_draw
def Ψ_in_tuples (_ : Gm) : DFn := Φt 12
def tags (gm : Gm) : List (Str × Addr × List Str) := [("lot", gm.a "BadLot", ["lot"]), ("number", gm.a "BadNumber", ["what", "number"]), ("row", gm.a "BadRow", ["row"]), ("table", gm.a "BadTable", ["table"]), ("web", gm.a "BadWeb", ["what", "value"]), ("many", gm.a "TooMany", ["what", "many", "limit"]), ("unlike", gm.a "Unlike", ["what"])]
def Ψ__law_fault (gm : Gm) : DFn := fun ds c R _ => ∃ d env Ψ, ds = [.sc d env] ∧ flats env = true ∧ gm.clo d Ψ ∧ Ψ env c (fun _ c' => R .non c') fun x c' => ∃ tag, (tag, x.C, x.ns) ∈ tags gm ∧ R (.tup (.str tag :: x.ds)) c'
def Ψ_is_whole (gm : Gm) : DFn := fun ds c R RX => ds.length = 1 ∧ (dRet ((dAnd (dCB cIsi (aCons (dVar 0) (aCons (dC (.ty "int")) aNil))) (dNot (dCB cIsi (aCons (dVar 0) (aCons (dC (.ty "bool")) aNil))))))) ⟨slots0 false 1 ds, c⟩ { nx := fun s => R .non s.c, rt := fun d s => R d s.c }
def Ψ_is_tuple_of (gm : Gm) : DFn := fun ds c R RX => ds.length = 2 ∧ (dRet ((dAnd (dCB cIsi (aCons (dVar 0) (aCons (dC (.ty "tuple")) aNil))) (dOp oEq (dCB cLen (aCons (dVar 0) aNil)) (dVar 1))))) ⟨slots0 false 2 ds, c⟩ { nx := fun s => R .non s.c, rt := fun d s => R d s.c }
def Ψ_is_pair (gm : Gm) : DFn := fun ds c R RX => ds.length = 1 ∧ (dSeq (dIfS ((tOrD (tNotD (tBool (dCB cIsT (aCons (dVar 0) (aCons (dTup (aCons (dC (.ty "tuple")) (aCons (dC (.ty "list")) aNil))) aNil))))) (tCm oNe (dCB cLen (aCons (dVar 0) aNil)) (dC (.int 2))))) (dRet (dC (.bl false))) (dNext)) (dRet ((dAnd (dCall (Ψ_is_whole gm) RX (aCons (dOp oIx (dVar 0) (dC (.int 0))) aNil)) (dAnd (dCall (Ψ_is_whole gm) RX (aCons (dOp oIx (dVar 0) (dC (.int 1))) aNil)) (dOp (oI0 fun i j => .bl (decide (i > j))) (dOp oIx (dVar 0) (dC (.int 1))) (dC (.int 0)))))))) ⟨slots0 false 1 ds, c⟩ { nx := fun s => R .non s.c, rt := fun d s => R d s.c }
def Ψ_lowest (gm : Gm) : DFn := fun ds c R RX => ds.length = 2 ∧ (dSeq (dSet 2 (dIf (tCm (oI0 fun i j => .bl (decide (i > j))) (dVar 1) (dC (.int 0))) (dCB cGcd (aCons (dVar 0) (aCons (dVar 1) aNil))) (dNeg (dCB cGcd (aCons (dVar 0) (aCons (dVar 1) aNil)))))) (dRet (dTup (aCons (dOp (oI CDiv fun i j => .int (i / j)) (dVar 0) (dVar 2)) (aCons (dOp (oI CDiv fun i j => .int (i / j)) (dVar 1) (dVar 2)) aNil))))) ⟨slots0 false 3 ds, c⟩ { nx := fun s => R .non s.c, rt := fun d s => R d s.c }
def Ψ_told (gm : Gm) : DFn := fun ds c R RX => ds.length = 1 ∧ (dSeq (dIfS (tBool (dCall (Ψ_is_whole gm) RX (aCons (dVar 0) aNil))) (dRet (dTup (aCons (dVar 0) (aCons (dC (.int 1)) aNil)))) (dNext)) (dSeq (dIfS (tNotD (tBool (dCall (Ψ_is_pair gm) RX (aCons (dVar 0) aNil)))) (dRaise (gm.a "BadRow") ["row"] RX (aCons (dVar 0) aNil)) (dNext)) (dRet (dCall (Ψ_lowest gm) RX (aCons (dOp oIx (dVar 0) (dC (.int 0))) (aCons (dOp oIx (dVar 0) (dC (.int 1))) aNil)))))) ⟨slots0 false 1 ds, c⟩ { nx := fun s => R .non s.c, rt := fun d s => R d s.c }
def Ψ_is_item (gm : Gm) : DFn := fun ds c R RX => ds.length = 2 ∧ (dSeq (dIfS (tCm oEq (dVar 0) (dC (.int 0))) (dRet ((dOr (dCall (Ψ_is_whole gm) RX (aCons (dVar 1) aNil)) (dCall (Ψ_is_pair gm) RX (aCons (dVar 1) aNil))))) (dNext)) (dRet ((dAnd (dCall (Ψ_is_whole gm) RX (aCons (dVar 1) aNil)) (dChain (fun i j => decide (i ≤ j)) (fun i j => decide (i < j)) (dC (.int 0)) (dVar 1) (dVar 0)))))) ⟨slots0 false 2 ds, c⟩ { nx := fun s => R .non s.c, rt := fun d s => R d s.c }
def Ψ_item_of (gm : Gm) : DFn := fun ds c R RX => ds.length = 2 ∧ (dRet (dIf (tCm oEq (dVar 0) (dC (.int 0))) (dCall (Ψ_told gm) RX (aCons (dVar 1) aNil)) (dVar 1))) ⟨slots0 false 2 ds, c⟩ { nx := fun s => R .non s.c, rt := fun d s => R d s.c }
def Ψ_is_web (gm : Gm) : DFn := fun ds c R RX => ds.length = 1 ∧ (dSeq (dIfS ((tOrD (tNotD (tBool (dCall (Ψ_is_tuple_of gm) RX (aCons (dVar 0) (aCons (dC (.int 2)) aNil))))) (tOrD (tNotD (tBool (dCall (Ψ_is_whole gm) RX (aCons (dOp oIx (dVar 0) (dC (.int 0))) aNil)))) (tNotD (tBool (dChain (fun i j => decide (i ≤ j)) (fun i j => decide (i ≤ j)) (dC (.int 1)) (dOp oIx (dVar 0) (dC (.int 0))) (dC (.int 8)))))))) (dRet (dC (.bl false))) (dNext)) (dSeq (dIfS ((tOrD (tNotD (tBool (dCB cIsi (aCons (dOp oIx (dVar 0) (dC (.int 1))) (aCons (dC (.ty "tuple")) aNil))))) (tCm (oI0 fun i j => .bl (decide (i > j))) (dCB cLen (aCons (dOp oIx (dVar 0) (dC (.int 1))) aNil)) (dC (.int 12))))) (dRet (dC (.bl false))) (dNext)) (dSeq (dFor (dSeq2 (dOp oIx (dVar 0) (dC (.int 1)))) (fun d s R => R (s.set 1 (.d d))) (dSeq (dIfS ((tOrD (tNotD (tBool (dCall (Ψ_is_tuple_of gm) RX (aCons (dVar 1) (aCons (dC (.int 2)) aNil))))) (tNotD (tBool (dCB cAll (aCons (dFz (dLc [2] (dSeq2 (dVar 1)) (fun d s R => R (s.set 2 (.d d))) dYes ((dAnd (dCall (Ψ_is_whole gm) (fun _ _ => False) (aCons (dVar 2) aNil)) (dChain (fun i j => decide (i ≤ j)) (fun i j => decide (i < j)) (dC (.int 0)) (dVar 2) (dOp oIx (dVar 0) (dC (.int 0)))))))) aNil)))))) (dRet (dC (.bl false))) (dNext)) (dIfS (tCm oEq (dOp oIx (dVar 1) (dC (.int 0))) (dOp oIx (dVar 1) (dC (.int 1)))) (dRet (dC (.bl false))) (dNext)))) (dRet (dC (.bl true)))))) ⟨slots0 false 3 ds, c⟩ { nx := fun s => R .non s.c, rt := fun d s => R d s.c }
def Ψ_web_from (gm : Gm) : DFn := fun ds c R RX => ds.length = 2 ∧ (dSeq (dSet 2 (dCall (Ψ_in_tuples gm) RX (aCons (dVar 1) aNil))) (dSeq (dIfS (tNotD (tBool (dCall (Ψ_is_web gm) RX (aCons (dVar 2) aNil)))) (dRaise (gm.a "BadWeb") ["what", "value"] RX (aCons (dVar 0) (aCons (dVar 1) aNil))) (dNext)) (dRet (dVar 2)))) ⟨slots0 false 3 ds, c⟩ { nx := fun s => R .non s.c, rt := fun d s => R d s.c }
def Ψ_need_field (gm : Gm) : DFn := fun ds c R RX => ds.length = 1 ∧ (dIfS ((tOrD (tNotD (tBool (dCall (Ψ_is_whole gm) RX (aCons (dVar 0) aNil)))) (tCm (oInK (gm.a "FIELDS") [0, 2, 3, 5, 7] true) (dVar 0) (dC (.cls (gm.a "FIELDS")))))) (dRaise (gm.a "BadNumber") ["what", "number"] RX (aCons (dC (.str "field")) (aCons (dVar 0) aNil))) (dNext)) ⟨slots0 false 1 ds, c⟩ { nx := fun s => R .non s.c, rt := fun d s => R d s.c }
def Ψ_is_row (gm : Gm) : DFn := fun ds c R RX => ds.length = 3 ∧ (dRet ((dAnd (dCall (Ψ_is_tuple_of gm) RX (aCons (dVar 1) (aCons (dVar 2) aNil))) (dCB cAll (aCons (dFz (dLc [3] (dSeq2 (dVar 1)) (fun d s R => R (s.set 3 (.d d))) dYes (dCall (Ψ_is_item gm) (fun _ _ => False) (aCons (dVar 0) (aCons (dVar 3) aNil))))) aNil))))) ⟨slots0 false 4 ds, c⟩ { nx := fun s => R .non s.c, rt := fun d s => R d s.c }
def Ψ_told_row (gm : Gm) : DFn := fun ds c R RX => ds.length = 2 ∧ (dRet (dCB cTup (aCons (dFz (dLc [2] (dSeq2 (dVar 1)) (fun d s R => R (s.set 2 (.d d))) dYes (dCall (Ψ_item_of gm) (fun _ _ => False) (aCons (dVar 0) (aCons (dVar 2) aNil))))) aNil))) ⟨slots0 false 3 ds, c⟩ { nx := fun s => R .non s.c, rt := fun d s => R d s.c }
def Ψ_loose_row (gm : Gm) : DFn := fun ds c R RX => ds.length = 2 ∧ (dSeq (dIfS (tNotD (tBool (dCB cIsT (aCons (dVar 1) (aCons (dTup (aCons (dC (.ty "tuple")) (aCons (dC (.ty "list")) aNil))) aNil))))) (dRet (dVar 1)) (dNext)) (dRet (dCB cTup (aCons (dFz (dLc [2] (dSeq2 (dVar 1)) (fun d s R => R (s.set 2 (.d d))) dYes (dCall (Ψ_in_tuples gm) (fun _ _ => False) (aCons (dVar 2) aNil)))) aNil)))) ⟨slots0 false 3 ds, c⟩ { nx := fun s => R .non s.c, rt := fun d s => R d s.c }
def Ψ_is_table (gm : Gm) : DFn := fun ds c R RX => ds.length = 3 ∧ (dRet ((dAnd (dCB cIsi (aCons (dVar 1) (aCons (dC (.ty "tuple")) aNil))) (dCB cAll (aCons (dFz (dLc [3] (dSeq2 (dVar 1)) (fun d s R => R (s.set 3 (.d d))) dYes (dCall (Ψ_is_row gm) (fun _ _ => False) (aCons (dVar 0) (aCons (dVar 3) (aCons (dVar 2) aNil)))))) aNil))))) ⟨slots0 false 4 ds, c⟩ { nx := fun s => R .non s.c, rt := fun d s => R d s.c }
def Ψ_are_widths (gm : Gm) : DFn := fun ds c R RX => ds.length = 1 ∧ (dSeq (dIfS ((tOrD (tNotD (tBool (dCB cIsi (aCons (dVar 0) (aCons (dC (.ty "tuple")) aNil))))) (tNotD (tBool (dChain (fun i j => decide (i ≤ j)) (fun i j => decide (i ≤ j)) (dC (.int 1)) (dCB cLen (aCons (dVar 0) aNil)) (dC (.int 8))))))) (dRet (dC (.bl false))) (dNext)) (dRet ((dAnd (dCB cAll (aCons (dFz (dLc [1] (dSeq2 (dVar 0)) (fun d s R => R (s.set 1 (.d d))) dYes ((dAnd (dCall (Ψ_is_whole gm) (fun _ _ => False) (aCons (dVar 1) aNil)) (dChain (fun i j => decide (i ≤ j)) (fun i j => decide (i ≤ j)) (dC (.int 0)) (dVar 1) (dC (.int 4))))))) aNil)) (dOp (oI0 fun i j => .bl (decide (i ≤ j))) (dCB cSum (aCons (dVar 0) aNil)) (dC (.int 16))))))) ⟨slots0 false 2 ds, c⟩ { nx := fun s => R .non s.c, rt := fun d s => R d s.c }
def Ψ_loose_table (gm : Gm) : DFn := fun ds c R RX => ds.length = 2 ∧ (dSeq (dIfS (tNotD (tBool (dCB cIsT (aCons (dVar 1) (aCons (dTup (aCons (dC (.ty "tuple")) (aCons (dC (.ty "list")) aNil))) aNil))))) (dRet (dVar 1)) (dNext)) (dRet (dCB cTup (aCons (dFz (dLc [2] (dSeq2 (dVar 1)) (fun d s R => R (s.set 2 (.d d))) dYes (dCall (Ψ_loose_row gm) (fun _ _ => False) (aCons (dVar 0) (aCons (dVar 2) aNil))))) aNil)))) ⟨slots0 false 3 ds, c⟩ { nx := fun s => R .non s.c, rt := fun d s => R d s.c }
def Ψ_tie_from (gm : Gm) : DFn := fun ds c R RX => ds.length = 3 ∧ (dSeq (dIfS ((tOrD (tNotD (tBool (dCB cIsT (aCons (dVar 2) (aCons (dTup (aCons (dC (.ty "tuple")) (aCons (dC (.ty "list")) aNil))) aNil))))) (tCm oNe (dCB cLen (aCons (dVar 2) aNil)) (dC (.int 4))))) (dRet (dC .non)) (dNext)) (dSeq (dAsg (dTup (aCons (dOp oIx (dVar 2) (dC (.int 0))) (aCons (dOp oIx (dVar 2) (dC (.int 1))) (aCons (dCall (Ψ_loose_table gm) RX (aCons (dVar 0) (aCons (dOp oIx (dVar 2) (dC (.int 2))) aNil))) (aCons (dCall (Ψ_loose_table gm) RX (aCons (dVar 0) (aCons (dOp oIx (dVar 2) (dC (.int 3))) aNil))) aNil))))) (gTp 4 (gsC (fun d s R => R (s.set 3 (.d d))) (gsC (fun d s R => R (s.set 4 (.d d))) (gsC (fun d s R => R (s.set 5 (.d d))) (gsC (fun d s R => R (s.set 6 (.d d))) gsN)))))) (dSeq (dIfS ((tOrD (tNotD (tBool (dCB cAll (aCons (dFz (dLc [7] (dSeq2 (dTup (aCons (dVar 3) (aCons (dVar 4) aNil)))) (fun d s R => R (s.set 7 (.d d))) dYes ((dAnd (dCall (Ψ_is_whole gm) (fun _ _ => False) (aCons (dVar 7) aNil)) (dChain (fun i j => decide (i ≤ j)) (fun i j => decide (i < j)) (dC (.int 0)) (dVar 7) (dCB cLen (aCons (dVar 1) aNil))))))) aNil)))) (tCm oEq (dVar 3) (dVar 4)))) (dRet (dC .non)) (dNext)) (dSeq (dIfS ((tOrD (tNotD (tBool (dCall (Ψ_is_table gm) RX (aCons (dVar 0) (aCons (dVar 5) (aCons (dOp oIx (dVar 1) (dVar 3)) aNil)))))) (tNotD (tBool (dCall (Ψ_is_table gm) RX (aCons (dVar 0) (aCons (dVar 6) (aCons (dOp oIx (dVar 1) (dVar 4)) aNil)))))))) (dRet (dC .non)) (dNext)) (dSeq (dIfS ((tOrD (tCm oNe (dCB cLen (aCons (dVar 5) aNil)) (dCB cLen (aCons (dVar 6) aNil))) (tCm (oI0 fun i j => .bl (decide (i > j))) (dCB cLen (aCons (dVar 5) aNil)) (dC (.int 4))))) (dRet (dC .non)) (dNext)) (dRet (dTup (aCons (dVar 3) (aCons (dVar 4) (aCons (dCB cTup (aCons (dFz (dLc [8] (dSeq2 (dVar 5)) (fun d s R => R (s.set 8 (.d d))) dYes (dCall (Ψ_told_row gm) (fun _ _ => False) (aCons (dVar 0) (aCons (dVar 8) aNil))))) aNil)) (aCons (dCB cTup (aCons (dFz (dLc [8] (dSeq2 (dVar 6)) (fun d s R => R (s.set 8 (.d d))) dYes (dCall (Ψ_told_row gm) (fun _ _ => False) (aCons (dVar 0) (aCons (dVar 8) aNil))))) aNil)) aNil))))))))))) ⟨slots0 false 9 ds, c⟩ { nx := fun s => R .non s.c, rt := fun d s => R d s.c }
def Ψ_Rooms (gm : Gm) : DFn := fun ds c R RX => ds.length = 3 ∧ ∀ o, (dSeq (dExpr (dCall (Ψ_need_field gm) RX (aCons (dVar 1) aNil))) (dSeq (dSet 4 (dCall (Ψ_in_tuples gm) RX (aCons (dVar 2) aNil))) (dSeq (dIfS (tNotD (tBool (dCall (Ψ_are_widths gm) RX (aCons (dVar 4) aNil)))) (dRaise (gm.a "BadWeb") ["what", "value"] RX (aCons (dC (.str "widths")) (aCons (dVar 2) aNil))) (dNext)) (dSeq (dIfS ((tOrD (tNotD (tBool (dCB cIsT (aCons (dVar 3) (aCons (dTup (aCons (dC (.ty "tuple")) (aCons (dC (.ty "list")) aNil))) aNil))))) (tCm (oI0 fun i j => .bl (decide (i > j))) (dCB cLen (aCons (dVar 3) aNil)) (dC (.int 12))))) (dRaise (gm.a "BadWeb") ["what", "value"] RX (aCons (dC (.str "ties")) (aCons (dVar 3) aNil))) (dNext)) (dSeq (dSet 5 (dFz (dLc [6] (dSeq2 (dVar 3)) (fun d s R => R (s.set 6 (.d d))) dYes (dCall (Ψ_tie_from gm) (fun _ _ => False) (aCons (dVar 1) (aCons (dVar 4) (aCons (dVar 6) aNil))))))) (dSeq (dIfS (tBool (dCB cAny (aCons (dFz (dLc [6] (dSeq2 (dVar 5)) (fun d s R => R (s.set 6 (.d d))) dYes (dOp (oIsN false) (dVar 6) (dC .non)))) aNil))) (dRaise (gm.a "BadWeb") ["what", "value"] RX (aCons (dC (.str "ties")) (aCons (dVar 3) aNil))) (dNext)) dNext)))))) ⟨slotsI o 7 ds, c⟩ { nx := fun s => s.sl[0]? = some (.d (.cls o)) ∧ noO s.sl = true ∧ postD (gm.a "Rooms") ["field", "widths", "ties"] [dVar 1, dVar 4, dCB cTup (aCons (dVar 5) aNil)] [] s R, rt := fun _ _ => False }
def Ψ_rooms_key (gm : Gm) : DFn := fun ds c R RX => ds.length = 1 ∧ (dRet (dTup (aCons (dFld (gm.a "Rooms") "field" (dVar 0)) (aCons (dFld (gm.a "Rooms") "widths" (dVar 0)) (aCons (dFld (gm.a "Rooms") "ties" (dVar 0)) aNil))))) ⟨slots0 false 1 ds, c⟩ { nx := fun s => R .non s.c, rt := fun d s => R d s.c }
def Ψ_need_rooms (gm : Gm) : DFn := fun ds c R RX => ds.length = 1 ∧ (dIfS (tNotD (tBool (dCB (cIsiC (gm.a "Rooms")) (aCons (dVar 0) (aCons (dC (.cls (gm.a "Rooms"))) aNil))))) (dRaise (gm.a "Unlike") ["what"] RX (aCons (dC (.str "rooms")) aNil)) (dNext)) ⟨slots0 false 1 ds, c⟩ { nx := fun s => R .non s.c, rt := fun d s => R d s.c }
def Ψ_web_by (gm : Gm) : DFn := fun ds c R RX => ds.length = 1 ∧ (dRet (dTup (aCons (dCB cLen (aCons (dFld (gm.a "Rooms") "widths" (dVar 0)) aNil)) (aCons (dCB cTup (aCons (dFz (dLc [1] (dSeq2 (dFld (gm.a "Rooms") "ties" (dVar 0))) (fun d s R => R (s.set 1 (.d d))) dYes (dCut (dVar 1) oNo (oSome (dC (.int 2)))))) aNil)) aNil)))) ⟨slots0 false 2 ds, c⟩ { nx := fun s => R .non s.c, rt := fun d s => R d s.c }
def Ψ_web_of (gm : Gm) : DFn := fun ds c R RX => ds.length = 1 ∧ (dSeq (dExpr (dCall (Ψ_need_rooms gm) RX (aCons (dVar 0) aNil))) (dRet (dCall (Ψ_web_by gm) RX (aCons (dVar 0) aNil)))) ⟨slots0 false 1 ds, c⟩ { nx := fun s => R .non s.c, rt := fun d s => R d s.c }
def Ψ_is_end (gm : Gm) : DFn := fun ds c R RX => ds.length = 5 ∧ (dSeq (dIfS ((tOrD (tNotD (tBool (dCall (Ψ_is_tuple_of gm) RX (aCons (dVar 4) (aCons (dC (.int 2)) aNil))))) (tOrD (tNotD (tBool (dCall (Ψ_is_whole gm) RX (aCons (dOp oIx (dVar 4) (dC (.int 0))) aNil)))) (tNotD (tBool (dCB cIsi (aCons (dOp oIx (dVar 4) (dC (.int 1))) (aCons (dC (.ty "bool")) aNil)))))))) (dRet (dC (.bl false))) (dNext)) (dSeq (dIfS (tNotD (tBool (dChain (fun i j => decide (i ≤ j)) (fun i j => decide (i < j)) (dC (.int 0)) (dOp oIx (dVar 4) (dC (.int 0))) (dCB cLen (aCons (dOp oIx (dVar 1) (dC (.int 1))) aNil))))) (dRet (dC (.bl false))) (dNext)) (dSeq (dAsg (dFz (dLc [7] (dSeq2 (dOp oIx (dOp oIx (dVar 0) (dC (.int 1))) (dVar 3))) (fun d s R => R (s.set 7 (.d d))) dYes (dOp oIx (dVar 2) (dVar 7)))) (gLs 2 (gsC (fun d s R => R (s.set 5 (.d d))) (gsC (fun d s R => R (s.set 6 (.d d))) gsN)))) (dRet (dOp oEq (dOp oIx (dOp oIx (dVar 1) (dC (.int 1))) (dOp oIx (dVar 4) (dC (.int 0)))) (dIf (tBool (dOp oIx (dVar 4) (dC (.int 1)))) (dTup (aCons (dVar 6) (aCons (dVar 5) aNil))) (dTup (aCons (dVar 5) (aCons (dVar 6) aNil))))))))) ⟨slots0 false 8 ds, c⟩ { nx := fun s => R .non s.c, rt := fun d s => R d s.c }
def Ψ_is_way (gm : Gm) : DFn := fun ds c R RX => ds.length = 3 ∧ (dSeq (dIfS ((tOrD (tNotD (tBool (dCall (Ψ_is_tuple_of gm) RX (aCons (dVar 2) (aCons (dC (.int 2)) aNil))))) (tOrD (tNotD (tBool (dCall (Ψ_is_tuple_of gm) RX (aCons (dOp oIx (dVar 2) (dC (.int 0))) (aCons (dOp oIx (dVar 0) (dC (.int 0))) aNil))))) (tNotD (tBool (dCall (Ψ_is_tuple_of gm) RX (aCons (dOp oIx (dVar 2) (dC (.int 1))) (aCons (dCB cLen (aCons (dOp oIx (dVar 0) (dC (.int 1))) aNil)) aNil)))))))) (dRet (dC (.bl false))) (dNext)) (dSeq (dSet 3 (dOp oIx (dVar 2) (dC (.int 0)))) (dSeq (dIfS (tNotD (tBool (dCB cAll (aCons (dFz (dLc [4] (dSeq2 (dVar 3)) (fun d s R => R (s.set 4 (.d d))) dYes ((dAnd (dCall (Ψ_is_whole gm) (fun _ _ => False) (aCons (dVar 4) aNil)) (dChain (fun i j => decide (i ≤ j)) (fun i j => decide (i < j)) (dC (.int 0)) (dVar 4) (dOp oIx (dVar 1) (dC (.int 0)))))))) aNil)))) (dRet (dC (.bl false))) (dNext)) (dRet (dCB cAll (aCons (dFz (dLc [5, 6] (dEnT (aCons (dOp oIx (dVar 2) (dC (.int 1))) aNil)) (gTp 2 (gsC (fun d s R => R (s.set 5 (.d d))) (gsC (fun d s R => R (s.set 6 (.d d))) gsN))) dYes (dCall (Ψ_is_end gm) (fun _ _ => False) (aCons (dVar 0) (aCons (dVar 1) (aCons (dVar 3) (aCons (dVar 5) (aCons (dVar 6) aNil)))))))) aNil)))))) ⟨slots0 false 7 ds, c⟩ { nx := fun s => R .non s.c, rt := fun d s => R d s.c }
def Ψ_is_web_map (gm : Gm) : DFn := fun ds c R RX => ds.length = 3 ∧ (dSeq (dSet 3 (dCall (Ψ_web_from gm) RX (aCons (dC (.str "above")) (aCons (dVar 0) aNil)))) (dRet (dCall (Ψ_is_way gm) RX (aCons (dVar 3) (aCons (dCall (Ψ_web_from gm) RX (aCons (dC (.str "below")) (aCons (dVar 1) aNil))) (aCons (dVar 2) aNil)))))) ⟨slots0 false 4 ds, c⟩ { nx := fun s => R .non s.c, rt := fun d s => R d s.c }
def Ψ_way_from (gm : Gm) : DFn := fun ds c R RX => ds.length = 3 ∧ (dSeq (dSet 3 (dCall (Ψ_in_tuples gm) RX (aCons (dVar 2) aNil))) (dSeq (dIfS (tNotD (tBool (dCall (Ψ_is_way gm) RX (aCons (dVar 0) (aCons (dVar 1) (aCons (dVar 3) aNil)))))) (dRaise (gm.a "BadRow") ["row"] RX (aCons (dVar 2) aNil)) (dNext)) (dRet (dVar 3)))) ⟨slots0 false 4 ds, c⟩ { nx := fun s => R .non s.c, rt := fun d s => R d s.c }
def Ψ_behind_web_map (gm : Gm) : DFn := fun ds c R RX => ds.length = 5 ∧ (dSeq (dSet 5 (dCall (Ψ_web_from gm) RX (aCons (dC (.str "above")) (aCons (dVar 0) aNil)))) (dSeq (dSet 6 (dCall (Ψ_web_from gm) RX (aCons (dC (.str "middle")) (aCons (dVar 1) aNil)))) (dSeq (dSet 7 (dCall (Ψ_web_from gm) RX (aCons (dC (.str "below")) (aCons (dVar 2) aNil)))) (dSeq (dSet 8 (dCall (Ψ_way_from gm) RX (aCons (dVar 5) (aCons (dVar 6) (aCons (dVar 3) aNil))))) (dSeq (dSet 9 (dCall (Ψ_way_from gm) RX (aCons (dVar 6) (aCons (dVar 7) (aCons (dVar 4) aNil))))) (dSeq (dSet 10 (dFz (dLc [11, 12] (dSeq2 (dOp oIx (dVar 8) (dC (.int 1)))) (gTp 2 (gsC (fun d s R => R (s.set 11 (.d d))) (gsC (fun d s R => R (s.set 12 (.d d))) gsN))) dYes (dTup (aCons (dOp oIx (dOp oIx (dOp oIx (dVar 9) (dC (.int 1))) (dVar 11)) (dC (.int 0))) (aCons (dOp oNe (dOp oIx (dOp oIx (dOp oIx (dVar 9) (dC (.int 1))) (dVar 11)) (dC (.int 1))) (dVar 12)) aNil)))))) (dRet (dTup (aCons (dCB cTup (aCons (dFz (dLc [13] (dSeq2 (dOp oIx (dVar 8) (dC (.int 0)))) (fun d s R => R (s.set 13 (.d d))) dYes (dOp oIx (dOp oIx (dVar 9) (dC (.int 0))) (dVar 13)))) aNil)) (aCons (dCB cTup (aCons (dVar 10) aNil)) aNil)))))))))) ⟨slots0 false 14 ds, c⟩ { nx := fun s => R .non s.c, rt := fun d s => R d s.c }
def Ψ_ends_over (gm : Gm) : DFn := fun ds c R RX => ds.length = 5 ∧ (dSeq (dOwn 5 (lLst aNil)) (dSeq (dFor (dEnT (aCons (dOp oIx (dVar 0) (dC (.int 1))) aNil)) (gTp 2 (gsC (fun d s R => R (s.set 6 (.d d))) (gsC (fun d s R => R (s.set 7 (.d d))) gsN))) (dSeq (dAsg (dOp oIx (dOp oIx (dVar 1) (dC (.int 1))) (dVar 6)) (gTp 2 (gsC (fun d s R => R (s.set 8 (.d d))) (gsC (fun d s R => R (s.set 9 (.d d))) gsN)))) (dIfS ((tAndD (tCm oEq (dVar 8) (dVar 3)) (tCm oEq (dOp oIx (dVar 7) (dIf (tBool (dVar 9)) (dOp (oI0 fun i j => .int (i - j)) (dC (.int 1)) (dVar 4)) (dVar 4))) (dVar 2)))) (dAppend 5 (dVar 6)) (dNext)))) (dFrz 5 (dRet (dVar 5))))) ⟨slots0 false 10 ds, c⟩ { nx := fun s => R .non s.c, rt := fun d s => R d s.c }
def Ψ_is_cover_by (gm : Gm) : DFn := fun ds c R RX => ds.length = 3 ∧ (dSeq (dFor (dRng (aCons (dOp oIx (dVar 0) (dC (.int 0))) aNil)) (fun d s R => R (s.set 3 (.d d))) (dFor (dEnT (aCons (dOp oIx (dVar 1) (dC (.int 1))) aNil)) (gTp 2 (gsC (fun d s R => R (s.set 4 (.d d))) (gsC (fun d s R => R (s.set 5 (.d d))) gsN))) (dFor (dRng (aCons (dC (.int 2)) aNil)) (fun d s R => R (s.set 6 (.d d))) (dIfS ((tAndD (tCm oEq (dOp oIx (dVar 5) (dVar 6)) (dOp oIx (dOp oIx (dVar 2) (dC (.int 0))) (dVar 3))) (tCm oNe (dCB cLen (aCons (dCall (Ψ_ends_over gm) RX (aCons (dVar 0) (aCons (dVar 2) (aCons (dVar 3) (aCons (dVar 4) (aCons (dVar 6) aNil)))))) aNil)) (dC (.int 1))))) (dRet (dC (.bl false))) (dNext))))) (dRet (dC (.bl true)))) ⟨slots0 false 7 ds, c⟩ { nx := fun s => R .non s.c, rt := fun d s => R d s.c }
def Ψ_is_cover (gm : Gm) : DFn := fun ds c R RX => ds.length = 3 ∧ (dSeq (dSet 3 (dCall (Ψ_web_from gm) RX (aCons (dC (.str "above")) (aCons (dVar 0) aNil)))) (dSeq (dSet 4 (dCall (Ψ_web_from gm) RX (aCons (dC (.str "below")) (aCons (dVar 1) aNil)))) (dRet (dCall (Ψ_is_cover_by gm) RX (aCons (dVar 3) (aCons (dVar 4) (aCons (dCall (Ψ_way_from gm) RX (aCons (dVar 3) (aCons (dVar 4) (aCons (dVar 2) aNil)))) aNil))))))) ⟨slots0 false 5 ds, c⟩ { nx := fun s => R .non s.c, rt := fun d s => R d s.c }
def Ψ__law_pick (gm : Gm) : DFn := fun ds c R RX => ds.length = 1 ∧ (dRet (dOp oIx (dVar 1) (dCallP 0 (Ψ__law_draw gm) RX (aCons (dCB cLen (aCons (dVar 1) aNil)) aNil)))) ⟨slots0 true 2 ds, c⟩ { nx := fun s => R .non s.c, rt := fun d s => R d s.c }
def Ψ__law_shuffled (gm : Gm) : DFn := fun ds c R RX => ds.length = 1 ∧ (dSeq (dPar 2 3 (pO (lList (aCons (dVar 1) aNil))) (pO (lLst aNil))) (dSeq (dFor (dRng (aCons (dCB cLen (aCons (dVar 1) aNil)) aNil)) (fun d s R => R (s.set 4 (.d d))) (dAppend 3 (dPop 2 (dCallP 0 (Ψ__law_draw gm) RX (aCons (dLenO 2) aNil))))) (dFrz 3 (dRet (dVar 3))))) ⟨slots0 true 5 ds, c⟩ { nx := fun s => R .non s.c, rt := fun d s => R d s.c }
def Ψ__law_is_int (gm : Gm) : DFn := fun ds c R RX => ds.length = 1 ∧ (dRet ((dAnd (dCB cIsi (aCons (dVar 0) (aCons (dC (.ty "int")) aNil))) (dNot (dCB cIsi (aCons (dVar 0) (aCons (dC (.ty "bool")) aNil))))))) ⟨slots0 false 1 ds, c⟩ { nx := fun s => R .non s.c, rt := fun d s => R d s.c }
def Ψ__law_gcd (gm : Gm) : DFn := fun ds c R RX => ds.length = 2 ∧ (dSeq (dPar 0 1 (pD (dCB cAbs (aCons (dVar 0) aNil))) (pD (dCB cAbs (aCons (dVar 1) aNil)))) (dSeq (dFor (dRng (aCons (dOp oAddX (dC (.int 4)) (dOp oMulX (dC (.int 2)) (dBits (dCB cInt (aCons (dVar 1) aNil))))) aNil)) (fun d s R => R (s.set 2 (.d d))) (dSeq (dIfS (tCm oEq (dVar 1) (dC (.int 0))) ((fun s E => E.bk s)) (dNext)) (dPar 0 1 (pD (dVar 1)) (pD (dOp (oI (fun _ j => 0 < j) fun i j => .int (i % j)) (dCB cInt (aCons (dVar 0) aNil)) (dVar 1)))))) (dRet (dVar 0)))) ⟨slots0 false 3 ds, c⟩ { nx := fun s => R .non s.c, rt := fun d s => R d s.c }
def Ψ__law_q (gm : Gm) : DFn := fun ds c R RX => ds.length = 2 ∧ (dSeq (dSet 2 (dCall (Ψ__law_gcd gm) RX (aCons (dVar 0) (aCons (dVar 1) aNil)))) (dSeq (dSet 2 (dIf (tCm (oI0 fun i j => .bl (decide (i < j))) (dVar 1) (dC (.int 0))) (dNeg (dVar 2)) (dVar 2))) (dRet (dTup (aCons (dOp (oI CDiv fun i j => .int (i / j)) (dVar 0) (dVar 2)) (aCons (dOp (oI CDiv fun i j => .int (i / j)) (dVar 1) (dVar 2)) aNil)))))) ⟨slots0 false 3 ds, c⟩ { nx := fun s => R .non s.c, rt := fun d s => R d s.c }
def Ψ__law_number (gm : Gm) : DFn := fun ds c R RX => ds.length = 1 ∧ (dSeq (dSet 2 (dOp (oI0 fun i j => .int (i - j)) (dCallP 0 (Ψ__law_draw gm) RX (aCons (dOp oAddX (dOp oMulX (dC (.int 2)) (dVar 1)) (dC (.int 1))) aNil)) (dVar 1))) (dRet (dCall (Ψ__law_q gm) RX (aCons (dVar 2) (aCons (dCallP 0 (Ψ__law_pick gm) RX (aCons (dFz (lLst (aCons (dC (.int 1)) (aCons (dC (.int 1)) (aCons (dC (.int 1)) (aCons (dC (.int 2)) (aCons (dC (.int 3)) aNil))))))) aNil)) aNil))))) ⟨slots0 true 3 ds, c⟩ { nx := fun s => R .non s.c, rt := fun d s => R d s.c }
def Ψ__law_field (gm : Gm) : DFn := fun ds c R RX => ds.length = 0 ∧ (dRet (dCallP 0 (Ψ__law_pick gm) RX (aCons (dFz (lLst (aCons (dC (.int 0)) (aCons (dC (.int 2)) (aCons (dC (.int 2)) (aCons (dC (.int 3)) (aCons (dC (.int 5)) (aCons (dC (.int 7)) aNil)))))))) aNil))) ⟨slots0 true 1 ds, c⟩ { nx := fun s => R .non s.c, rt := fun d s => R d s.c }
def Ψ__law_item (gm : Gm) : DFn := fun ds c R RX => ds.length = 1 ∧ (dRet (dIf (tCm oEq (dVar 1) (dC (.int 0))) (dCallP 0 (Ψ__law_number gm) RX (aCons (dC (.int 3)) aNil)) (dCallP 0 (Ψ__law_draw gm) RX (aCons (dVar 1) aNil)))) ⟨slots0 true 2 ds, c⟩ { nx := fun s => R .non s.c, rt := fun d s => R d s.c }
def Ψ__law_row (gm : Gm) : DFn := fun ds c R RX => ds.length = 2 ∧ (dRet (dCB cTup (aCons (dFz (dLc [3] (dRng (aCons (dVar 2) aNil)) (fun d s R => R (s.set 3 (.d d))) dYes (dCallP 0 (Ψ__law_item gm) (fun _ _ => False) (aCons (dVar 1) aNil)))) aNil))) ⟨slots0 true 4 ds, c⟩ { nx := fun s => R .non s.c, rt := fun d s => R d s.c }
def Ψ__law_table (gm : Gm) : DFn := fun ds c R RX => ds.length = 3 ∧ (dRet (dCB cTup (aCons (dFz (dLc [4] (dRng (aCons (dVar 2) aNil)) (fun d s R => R (s.set 4 (.d d))) dYes (dCallP 0 (Ψ__law_row gm) (fun _ _ => False) (aCons (dVar 1) (aCons (dVar 3) aNil))))) aNil))) ⟨slots0 true 5 ds, c⟩ { nx := fun s => R .non s.c, rt := fun d s => R d s.c }
def Ψ__law_widths (gm : Gm) : DFn := fun ds c R RX => ds.length = 3 ∧ (dSeq (dOwn 4 (lLst aNil)) (dSeq (dFor (dRng (aCons (dVar 1) aNil)) (fun d s R => R (s.set 5 (.d d))) (dAppend 4 (dCB cMin2 (aCons (dCallP 0 (Ψ__law_draw gm) RX (aCons (dOp oAddX (dVar 2) (dC (.int 1))) aNil)) (aCons (dOp (oI0 fun i j => .int (i - j)) (dVar 3) (dCBO 4 cSum)) aNil))))) (dFrz 4 (dRet (dCB cTup (aCons (dVar 4) aNil)))))) ⟨slots0 true 6 ds, c⟩ { nx := fun s => R .non s.c, rt := fun d s => R d s.c }
def Ψ__law_rooms (gm : Gm) : DFn := fun ds c R RX => ds.length = 4 ∧ (dSeq (dSet 5 (dCallP 0 (Ψ__law_widths gm) RX (aCons (dOp oAddX (dC (.int 1)) (dCallP 0 (Ψ__law_draw gm) RX (aCons (dVar 2) aNil))) (aCons (dC (.int 3)) (aCons (dVar 3) aNil))))) (dSeq (dOwn 6 (lLst aNil)) (dSeq (dIfS (tCm (oI0 fun i j => .bl (decide (i > j))) (dCB cLen (aCons (dVar 5) aNil)) (dC (.int 1))) (dFor (dRng (aCons (dCallP 0 (Ψ__law_draw gm) RX (aCons (dOp oAddX (dVar 4) (dC (.int 1))) aNil)) aNil)) (fun d s R => R (s.set 7 (.d d))) (dSeq (dAsg (dCut (dCallP 0 (Ψ__law_shuffled gm) RX (aCons (dFz (lRng (dCB cLen (aCons (dVar 5) aNil)))) aNil)) oNo (oSome (dC (.int 2)))) (gLs 2 (gsC (fun d s R => R (s.set 8 (.d d))) (gsC (fun d s R => R (s.set 9 (.d d))) gsN)))) (dSeq (dSet 10 (dCallP 0 (Ψ__law_pick gm) RX (aCons (dFz (lLst (aCons (dC (.int 0)) (aCons (dC (.int 1)) (aCons (dC (.int 1)) (aCons (dC (.int 1)) (aCons (dC (.int 2)) (aCons (dC (.int 2)) (aCons (dC (.int 3)) aNil))))))))) aNil))) (dAppend 6 (dTup (aCons (dVar 8) (aCons (dVar 9) (aCons (dCallP 0 (Ψ__law_table gm) RX (aCons (dVar 1) (aCons (dVar 10) (aCons (dOp oIx (dVar 5) (dVar 8)) aNil)))) (aCons (dCallP 0 (Ψ__law_table gm) RX (aCons (dVar 1) (aCons (dVar 10) (aCons (dOp oIx (dVar 5) (dVar 9)) aNil)))) aNil))))))))) (dNext)) (dFrz 6 (dRet (dTup (aCons (dVar 5) (aCons (dCB cTup (aCons (dVar 6) aNil)) aNil)))))))) ⟨slots0 true 11 ds, c⟩ { nx := fun s => R .non s.c, rt := fun d s => R d s.c }
def Ψ__law_are_due (gm : Gm) : DFn := fun ds c R RX => ds.length = 1 ∧ (dRet (dCB cAll (aCons (dFz (dLc [1, 2] (dSeq2 (dVar 0)) (gTp 2 (gsC (fun d s R => R (s.set 1 (.d d))) (gsC (fun d s R => R (s.set 2 (.d d))) gsN))) dYes (dOp oEq (dCB cRepr (aCons (dCall (Ψ__law_fault gm) (fun _ _ => False) (aCons (dVar 1) aNil)) aNil)) (dCB cRepr (aCons (dVar 2) aNil))))) aNil))) ⟨slots0 false 3 ds, c⟩ { nx := fun s => R .non s.c, rt := fun d s => R d s.c }
def Ψ__law_plain_web (gm : Gm) : DFn := fun ds c R RX => ds.length = 2 ∧ (dSeq (dSet 3 (dOp oAddX (dC (.int 1)) (dCallP 0 (Ψ__law_draw gm) RX (aCons (dVar 1) aNil)))) (dSeq (dOwn 4 (lLst aNil)) (dSeq (dIfS (tCm (oI0 fun i j => .bl (decide (i > j))) (dVar 3) (dC (.int 1))) (dFor (dRng (aCons (dCallP 0 (Ψ__law_draw gm) RX (aCons (dOp oAddX (dVar 2) (dC (.int 1))) aNil)) aNil)) (fun d s R => R (s.set 5 (.d d))) (dAppend 4 (dCB cTup (aCons (dCut (dCallP 0 (Ψ__law_shuffled gm) RX (aCons (dFz (lRng (dVar 3))) aNil)) oNo (oSome (dC (.int 2)))) aNil)))) (dNext)) (dFrz 4 (dRet (dTup (aCons (dVar 3) (aCons (dCB cTup (aCons (dVar 4) aNil)) aNil)))))))) ⟨slots0 true 6 ds, c⟩ { nx := fun s => R .non s.c, rt := fun d s => R d s.c }
def Ψ__law_is_way (gm : Gm) : DFn := fun ds c R RX => ds.length = 3 ∧ (dSeq (dIfS ((tOrD (tNotD (tBool (dCB cIsi (aCons (dVar 2) (aCons (dC (.ty "tuple")) aNil))))) (tOrD (tCm oNe (dCB cLen (aCons (dVar 2) aNil)) (dC (.int 2))) (tOrD (tNotD (tBool (dCB cIsi (aCons (dOp oIx (dVar 2) (dC (.int 0))) (aCons (dC (.ty "tuple")) aNil))))) (tNotD (tBool (dCB cIsi (aCons (dOp oIx (dVar 2) (dC (.int 1))) (aCons (dC (.ty "tuple")) aNil))))))))) (dRet (dC (.bl false))) (dNext)) (dSeq (dAsg (dVar 2) (gTp 2 (gsC (fun d s R => R (s.set 3 (.d d))) (gsC (fun d s R => R (s.set 4 (.d d))) gsN)))) (dSeq (dIfS ((tOrD (tCm oNe (dCB cLen (aCons (dVar 3) aNil)) (dOp oIx (dVar 0) (dC (.int 0)))) (tOrD (tNotD (tBool (dCB cAll (aCons (dFz (dLc [5] (dSeq2 (dVar 3)) (fun d s R => R (s.set 5 (.d d))) dYes ((dAnd (dCall (Ψ__law_is_int gm) (fun _ _ => False) (aCons (dVar 5) aNil)) (dChain (fun i j => decide (i ≤ j)) (fun i j => decide (i < j)) (dC (.int 0)) (dVar 5) (dOp oIx (dVar 1) (dC (.int 0)))))))) aNil)))) (tCm oNe (dCB cLen (aCons (dVar 4) aNil)) (dCB cLen (aCons (dOp oIx (dVar 0) (dC (.int 1))) aNil)))))) (dRet (dC (.bl false))) (dNext)) (dSeq (dFor (dZipX (aCons (dOp oIx (dVar 0) (dC (.int 1))) (aCons (dVar 4) aNil))) (gTp 2 (gsC (fun d s R => R (s.set 6 (.d d))) (gsC (fun d s R => R (s.set 7 (.d d))) gsN))) (dSeq (dIfS ((tOrD (tNotD (tBool (dCB cIsi (aCons (dVar 7) (aCons (dC (.ty "tuple")) aNil))))) (tOrD (tCm oNe (dCB cLen (aCons (dVar 7) aNil)) (dC (.int 2))) (tOrD (tNotD (tBool (dCall (Ψ__law_is_int gm) RX (aCons (dOp oIx (dVar 7) (dC (.int 0))) aNil)))) (tNotD (tBool (dCB cIsi (aCons (dOp oIx (dVar 7) (dC (.int 1))) (aCons (dC (.ty "bool")) aNil))))))))) (dRet (dC (.bl false))) (dNext)) (dSeq (dIfS (tNotD (tBool (dChain (fun i j => decide (i ≤ j)) (fun i j => decide (i < j)) (dC (.int 0)) (dOp oIx (dVar 7) (dC (.int 0))) (dCB cLen (aCons (dOp oIx (dVar 1) (dC (.int 1))) aNil))))) (dRet (dC (.bl false))) (dNext)) (dSeq (dSet 8 (dIf (tBool (dOp oIx (dVar 7) (dC (.int 1)))) (dTup (aCons (dOp oIx (dVar 3) (dOp oIx (dVar 6) (dC (.int 1)))) (aCons (dOp oIx (dVar 3) (dOp oIx (dVar 6) (dC (.int 0)))) aNil))) (dTup (aCons (dOp oIx (dVar 3) (dOp oIx (dVar 6) (dC (.int 0)))) (aCons (dOp oIx (dVar 3) (dOp oIx (dVar 6) (dC (.int 1)))) aNil))))) (dIfS (tCm oNe (dOp oIx (dOp oIx (dVar 1) (dC (.int 1))) (dOp oIx (dVar 7) (dC (.int 0)))) (dVar 8)) (dRet (dC (.bl false))) (dNext)))))) (dRet (dC (.bl true))))))) ⟨slots0 false 9 ds, c⟩ { nx := fun s => R .non s.c, rt := fun d s => R d s.c }
def Ψ__law_upon (gm : Gm) : DFn := fun ds c R RX => ds.length = 3 ∧ (dSeq (dSet 4 (dCB cTup (aCons (dFz (dLc [5] (dRng (aCons (dOp oAddX (dC (.int 1)) (dCallP 0 (Ψ__law_draw gm) RX (aCons (dVar 2) aNil))) aNil)) (fun d s R => R (s.set 5 (.d d))) dYes (dCallP 0 (Ψ__law_draw gm) (fun _ _ => False) (aCons (dOp oIx (dVar 1) (dC (.int 0))) aNil)))) aNil))) (dSeq (dPar 6 7 (pO (lLst aNil)) (pO (lLst aNil))) (dSeq (dFor (dRng (aCons (dCallP 0 (Ψ__law_draw gm) RX (aCons (dOp oAddX (dVar 3) (dC (.int 1))) aNil)) aNil)) (fun d s R => R (s.set 8 (.d d))) (dSeq (dIfS (tCm oEq (dOp oIx (dVar 1) (dC (.int 1))) (dTup aNil)) ((fun s E => E.bk s)) (dNext)) (dSeq (dAsg (dTup (aCons (dCallP 0 (Ψ__law_draw gm) RX (aCons (dCB cLen (aCons (dOp oIx (dVar 1) (dC (.int 1))) aNil)) aNil)) (aCons (dOp oEq (dCallP 0 (Ψ__law_draw gm) RX (aCons (dC (.int 2)) aNil)) (dC (.int 1))) aNil))) (gTp 2 (gsC (fun d s R => R (s.set 9 (.d d))) (gsC (fun d s R => R (s.set 10 (.d d))) gsN)))) (dSeq (dSet 11 (dFz (dLc [5] (dRng (aCons (dCB cLen (aCons (dVar 4) aNil)) aNil)) (fun d s R => R (s.set 5 (.d d))) (tCm oEq (dOp oIx (dVar 4) (dVar 5)) (dOp oIx (dOp oIx (dOp oIx (dVar 1) (dC (.int 1))) (dVar 9)) (dIf (tBool (dVar 10)) (dC (.int 1)) (dC (.int 0))))) (dVar 5)))) (dSeq (dSet 12 (dFz (dLc [5] (dRng (aCons (dCB cLen (aCons (dVar 4) aNil)) aNil)) (fun d s R => R (s.set 5 (.d d))) (tCm oEq (dOp oIx (dVar 4) (dVar 5)) (dOp oIx (dOp oIx (dOp oIx (dVar 1) (dC (.int 1))) (dVar 9)) (dIf (tBool (dVar 10)) (dC (.int 0)) (dC (.int 1))))) (dVar 5)))) (dIfS ((tAndD (tCm oNe (dVar 11) (dFz (lLst aNil))) (tCm oNe (dVar 12) (dFz (lLst aNil))))) (dSeq (dAppend 6 (dTup (aCons (dCallP 0 (Ψ__law_pick gm) RX (aCons (dVar 11) aNil)) (aCons (dCallP 0 (Ψ__law_pick gm) RX (aCons (dVar 12) aNil)) aNil)))) (dAppend 7 (dTup (aCons (dVar 9) (aCons (dVar 10) aNil))))) (dNext))))))) (dFrz 7 (dFrz 6 (dRet (dTup (aCons (dTup (aCons (dCB cLen (aCons (dVar 4) aNil)) (aCons (dCB cTup (aCons (dVar 6) aNil)) aNil))) (aCons (dTup (aCons (dVar 4) (aCons (dCB cTup (aCons (dVar 7) aNil)) aNil))) aNil))))))))) ⟨slots0 true 13 ds, c⟩ { nx := fun s => R .non s.c, rt := fun d s => R d s.c }
def Ψ__law_web_by (gm : Gm) : DFn := fun ds c R RX => ds.length = 2 ∧ (dRet (dTup (aCons (dCB cLen (aCons (dVar 0) aNil)) (aCons (dCB cTup (aCons (dFz (dLc [2] (dSeq2 (dVar 1)) (fun d s R => R (s.set 2 (.d d))) dYes (dCut (dVar 2) oNo (oSome (dC (.int 2)))))) aNil)) aNil)))) ⟨slots0 false 3 ds, c⟩ { nx := fun s => R .non s.c, rt := fun d s => R d s.c }
def Ψ__law_covers (gm : Gm) : DFn := fun ds c R RX => ds.length = 3 ∧ (dSeq (dFor (dRng (aCons (dOp oIx (dVar 0) (dC (.int 0))) aNil)) (fun d s R => R (s.set 3 (.d d))) (dFor (dRng (aCons (dCB cLen (aCons (dOp oIx (dVar 1) (dC (.int 1))) aNil)) aNil)) (fun d s R => R (s.set 4 (.d d))) (dFor (dSeq2 (dTup (aCons (dC (.int 0)) (aCons (dC (.int 1)) aNil)))) (fun d s R => R (s.set 5 (.d d))) (dSeq (dIfS (tCm oNe (dOp oIx (dOp oIx (dOp oIx (dVar 1) (dC (.int 1))) (dVar 4)) (dVar 5)) (dOp oIx (dOp oIx (dVar 2) (dC (.int 0))) (dVar 3))) ((fun s E => E.ct s)) (dNext)) (dSeq (dSet 6 (dC (.int 0))) (dSeq (dFor (dZipX (aCons (dOp oIx (dVar 0) (dC (.int 1))) (aCons (dOp oIx (dVar 2) (dC (.int 1))) aNil))) (gTp 2 (gsC (fun d s R => R (s.set 7 (.d d))) (gsC (fun d s R => R (s.set 8 (.d d))) gsN))) (dIfS ((tAndD (tCm oEq (dOp oIx (dVar 8) (dC (.int 0))) (dVar 4)) (tCm oEq (dOp oIx (dVar 7) (dIf (tBool (dOp oIx (dVar 8) (dC (.int 1)))) (dOp (oI0 fun i j => .int (i - j)) (dC (.int 1)) (dVar 5)) (dVar 5))) (dVar 3)))) (dSet 6 (dOp oAddX (dVar 6) (dC (.int 1)))) (dNext))) (dIfS (tCm oNe (dVar 6) (dC (.int 1))) (dRet (dC (.bl false))) (dNext)))))))) (dRet (dC (.bl true)))) ⟨slots0 false 9 ds, c⟩ { nx := fun s => R .non s.c, rt := fun d s => R d s.c }
def Ψ__law_wrong (gm : Gm) : DFn := fun ds c R RX => ds.length = 2 ∧ (dSeq (dAsg (dVar 1) (gTp 2 (gsC (fun d s R => R (s.set 3 (.d d))) (gsC (fun d s R => R (s.set 4 (.d d))) gsN)))) (dSeq (dSet 5 (dCallP 0 (Ψ__law_draw gm) RX (aCons (dCB cLen (aCons (dVar 3) aNil)) aNil))) (dSeq (dOwn 6 (lLst (aCons (dC .non) (aCons (dC (.int 5)) (aCons (dTup (aCons (dVar 3) aNil)) (aCons (dTup (aCons (dVar 3) (aCons (dVar 4) (aCons (dTup aNil) aNil)))) (aCons (dTup (aCons (dFz (lList (aCons (dVar 3) aNil))) (aCons (dVar 4) aNil))) (aCons (dTup (aCons (dVar 3) (aCons (dFz (lList (aCons (dVar 4) aNil))) aNil))) (aCons (dTup (aCons (dCut (dVar 3) (oSome (dC (.int 1))) oNo) (aCons (dVar 4) aNil))) (aCons (dTup (aCons (dVar 3) (aCons (dOp oAddX (dVar 4) (dTup (aCons (dTup (aCons (dC (.int 0)) (aCons (dC (.bl false)) aNil))) aNil))) aNil))) aNil)))))))))) (dSeq (dOwn 6 (lAddO 6 (dFz (dLc [7] (dSeq2 (dTup (aCons (dOp oIx (dVar 2) (dC (.int 0))) (aCons (dNeg (dC (.int 1))) (aCons (dC (.bl true)) (aCons (dC .non) (aCons (dOp (oI (fun _ j => 0 < j) fun i j => .int (i % j)) (dCB cInt (aCons (dOp oAddX (dOp oIx (dVar 3) (dVar 5)) (dC (.int 1))) aNil)) (dOp oIx (dVar 2) (dC (.int 0)))) aNil))))))) (fun d s R => R (s.set 7 (.d d))) dYes (dTup (aCons (dOp oAddX (dOp oAddX (dCut (dVar 3) oNo (oSome (dVar 5))) (dTup (aCons (dVar 7) aNil))) (dCut (dVar 3) (oSome (dOp oAddX (dVar 5) (dC (.int 1)))) oNo)) (aCons (dVar 4) aNil))))))) (dSeq (dIfS (tCm oNe (dVar 4) (dTup aNil)) (dSeq (dSet 8 (dCallP 0 (Ψ__law_draw gm) RX (aCons (dCB cLen (aCons (dVar 4) aNil)) aNil))) (dSeq (dAsg (dOp oIx (dVar 4) (dVar 8)) (gTp 2 (gsC (fun d s R => R (s.set 9 (.d d))) (gsC (fun d s R => R (s.set 10 (.d d))) gsN)))) (dFor (dSeq2 (dFz (lLst (aCons (dTup (aCons (dVar 9) (aCons (dNot (dVar 10)) aNil))) (aCons (dTup (aCons (dOp oAddX (dVar 9) (dC (.int 1))) (aCons (dVar 10) aNil))) (aCons (dTup (aCons (dVar 9) (aCons (dCB cInt (aCons (dVar 10) aNil)) aNil))) (aCons (dTup (aCons (dVar 9) aNil)) (aCons (dFz (lLst (aCons (dVar 9) (aCons (dVar 10) aNil)))) (aCons (dC .non) (aCons (dTup (aCons (dC (.bl true)) (aCons (dVar 10) aNil))) aNil)))))))))) (fun d s R => R (s.set 11 (.d d))) (dAppend 6 (dTup (aCons (dVar 3) (aCons (dOp oAddX (dOp oAddX (dCut (dVar 4) oNo (oSome (dVar 8))) (dTup (aCons (dVar 11) aNil))) (dCut (dVar 4) (oSome (dOp oAddX (dVar 8) (dC (.int 1)))) oNo)) aNil))))))) (dNext)) (dFrz 6 (dRet (dVar 6)))))))) ⟨slots0 true 12 ds, c⟩ { nx := fun s => R .non s.c, rt := fun d s => R d s.c }
def Ψ__law_case (gm : Gm) : DFn := fun ds c R RX => ds.length = 0 ∧ (dSeq (dSet 1 (dCallP 0 (Ψ__law_plain_web gm) RX (aCons (dC (.int 4)) (aCons (dC (.int 5)) aNil)))) (dSeq (dAsg (dCallP 0 (Ψ__law_upon gm) RX (aCons (dVar 1) (aCons (dC (.int 6)) (aCons (dC (.int 8)) aNil)))) (gTp 2 (gsC (fun d s R => R (s.set 2 (.d d))) (gsC (fun d s R => R (s.set 3 (.d d))) gsN)))) (dSeq (dAsg (dCallP 0 (Ψ__law_upon gm) RX (aCons (dVar 2) (aCons (dC (.int 8)) (aCons (dC (.int 10)) aNil)))) (gTp 2 (gsC (fun d s R => R (s.set 4 (.d d))) (gsC (fun d s R => R (s.set 5 (.d d))) gsN)))) (dSeq (dFor (dSeq2 (dFz (lLst (aCons (dTup (aCons (dVar 2) (aCons (dVar 1) (aCons (dVar 3) aNil)))) (aCons (dTup (aCons (dVar 4) (aCons (dVar 2) (aCons (dVar 5) aNil)))) aNil))))) (gTp 3 (gsC (fun d s R => R (s.set 6 (.d d))) (gsC (fun d s R => R (s.set 7 (.d d))) (gsC (fun d s R => R (s.set 8 (.d d))) gsN)))) (dSeq (dSet 9 (dCallP 0 (Ψ__law_pick gm) RX (aCons (dFz (lLst (aCons (dVar 6) (aCons (dFz (lLst (aCons (dOp oIx (dVar 6) (dC (.int 0))) (aCons (dFz (dLc [10] (dSeq2 (dOp oIx (dVar 6) (dC (.int 1)))) (fun d s R => R (s.set 10 (.d d))) dYes (dFz (lList (aCons (dVar 10) aNil))))) aNil)))) aNil)))) aNil))) (dSeq (dFor (dSeq2 (dOp oAddX (dFz (lLst (aCons (dVar 8) aNil))) (dCallP 0 (Ψ__law_wrong gm) RX (aCons (dVar 8) (aCons (dVar 7) aNil))))) (fun d s R => R (s.set 11 (.d d))) (dIfS (tCm oNe (dCB cRepr (aCons (dCall (Ψ_is_web_map gm) RX (aCons (dVar 9) (aCons (dVar 7) (aCons (dVar 11) aNil)))) aNil)) (dCB cRepr (aCons (dCall (Ψ__law_is_way gm) RX (aCons (dVar 6) (aCons (dVar 7) (aCons (dVar 11) aNil)))) aNil))) (dRet (dC (.bl false))) (dNext))) (dIfS (tCm oNe (dCB cRepr (aCons (dCall (Ψ_is_cover gm) RX (aCons (dVar 9) (aCons (dVar 7) (aCons (dFz (lLst (aCons (dFz (lList (aCons (dOp oIx (dVar 8) (dC (.int 0))) aNil))) (aCons (dFz (dLc [12] (dSeq2 (dOp oIx (dVar 8) (dC (.int 1)))) (fun d s R => R (s.set 12 (.d d))) dYes (dFz (lList (aCons (dVar 12) aNil))))) aNil)))) aNil)))) aNil)) (dCB cRepr (aCons (dCall (Ψ__law_covers gm) RX (aCons (dVar 6) (aCons (dVar 7) (aCons (dVar 8) aNil)))) aNil))) (dRet (dC (.bl false))) (dNext))))) (dSeq (dSet 13 (dCall (Ψ_behind_web_map gm) RX (aCons (dVar 4) (aCons (dVar 2) (aCons (dVar 1) (aCons (dVar 5) (aCons (dVar 3) aNil))))))) (dSeq (dSet 14 (dCB cTup (aCons (dFz (dLc [15] (dSeq2 (dOp oIx (dVar 5) (dC (.int 0)))) (fun d s R => R (s.set 15 (.d d))) dYes (dOp oIx (dOp oIx (dVar 3) (dC (.int 0))) (dVar 15)))) aNil))) (dSeq (dSet 16 (dCB cTup (aCons (dFz (dLc [17, 18] (dSeq2 (dOp oIx (dVar 5) (dC (.int 1)))) (gTp 2 (gsC (fun d s R => R (s.set 17 (.d d))) (gsC (fun d s R => R (s.set 18 (.d d))) gsN))) dYes (dTup (aCons (dOp oIx (dOp oIx (dOp oIx (dVar 3) (dC (.int 1))) (dVar 17)) (dC (.int 0))) (aCons (dOp oNe (dVar 18) (dOp oIx (dOp oIx (dOp oIx (dVar 3) (dC (.int 1))) (dVar 17)) (dC (.int 1)))) aNil))))) aNil))) (dRet ((dAnd (dOp oEq (dCB cRepr (aCons (dVar 13) aNil)) (dCB cRepr (aCons (dTup (aCons (dVar 14) (aCons (dVar 16) aNil))) aNil))) (dOp (oIsB false) (dCall (Ψ_is_web_map gm) RX (aCons (dVar 4) (aCons (dVar 1) (aCons (dVar 13) aNil)))) (dC (.bl true))))))))))))) ⟨slots0 true 19 ds, c⟩ { nx := fun s => R .non s.c, rt := fun d s => R d s.c }
def Ψ__law_copies_hold (gm : Gm) : DFn := fun ds c R RX => ds.length = 0 ∧ (dSeq (dSet 1 (dCallP 0 (Ψ__law_plain_web gm) RX (aCons (dC (.int 3)) (aCons (dC (.int 4)) aNil)))) (dSeq (dSet 2 (dOp oAddX (dC (.int 1)) (dCallP 0 (Ψ__law_draw gm) RX (aCons (dC (.int 2)) aNil)))) (dSeq (dSet 3 (dCallP 0 (Ψ__law_shuffled gm) RX (aCons (dFz (lRng (dOp oMulX (dOp oIx (dVar 1) (dC (.int 0))) (dVar 2)))) aNil))) (dSeq (dPar3 4 5 6 (pO (lMul (dFz (lLst (aCons (dC (.int 0)) aNil))) (dCB cLen (aCons (dVar 3) aNil)))) (pO (lLst aNil)) (pO (lLst aNil))) (dSeq (dFor (dRng (aCons (dVar 2) aNil)) (fun d s R => R (s.set 7 (.d d))) (dSeq (dFor (dRng (aCons (dOp oIx (dVar 1) (dC (.int 0))) aNil)) (fun d s R => R (s.set 8 (.d d))) (dSetO 4 (dOp oIx (dVar 3) (dOp oAddX (dOp oMulX (dVar 7) (dOp oIx (dVar 1) (dC (.int 0)))) (dVar 8))) (dVar 8))) (dFor (dRng (aCons (dCB cLen (aCons (dOp oIx (dVar 1) (dC (.int 1))) aNil)) aNil)) (fun d s R => R (s.set 9 (.d d))) (dSeq (dAsg (dFz (dLc [8] (dSeq2 (dOp oIx (dOp oIx (dVar 1) (dC (.int 1))) (dVar 9))) (fun d s R => R (s.set 8 (.d d))) dYes (dOp oIx (dVar 3) (dOp oAddX (dOp oMulX (dVar 7) (dOp oIx (dVar 1) (dC (.int 0)))) (dVar 8))))) (gLs 2 (gsC (fun d s R => R (s.set 10 (.d d))) (gsC (fun d s R => R (s.set 11 (.d d))) gsN)))) (dSeq (dSet 12 (dOp oEq (dCallP 0 (Ψ__law_draw gm) RX (aCons (dC (.int 2)) aNil)) (dC (.int 1)))) (dSeq (dAppend 5 (dIf (tBool (dVar 12)) (dTup (aCons (dVar 11) (aCons (dVar 10) aNil))) (dTup (aCons (dVar 10) (aCons (dVar 11) aNil))))) (dAppend 6 (dTup (aCons (dVar 9) (aCons (dVar 12) aNil)))))))))) (dFrz 6 (dFrz 4 (dFrz 5 (dSeq (dSet 13 (dTup (aCons (dCB cLen (aCons (dVar 3) aNil)) (aCons (dCB cTup (aCons (dVar 5) aNil)) aNil)))) (dSeq (dIfS (tCm (oIsB true) (dCall (Ψ_is_cover gm) RX (aCons (dVar 13) (aCons (dVar 1) (aCons (dTup (aCons (dCB cTup (aCons (dVar 4) aNil)) (aCons (dCB cTup (aCons (dVar 6) aNil)) aNil))) aNil)))) (dC (.bl true))) (dRet (dC (.bl false))) (dNext)) (dSeq (dIfS (tCm oEq (dVar 5) (dFz (lLst aNil))) (dRet (dC (.bl true))) (dNext)) (dSeq (dPar 14 15 (pD (dTup (aCons (dCB cLen (aCons (dVar 3) aNil)) (aCons (dCB cTup (aCons (dCut (dVar 5) (oSome (dC (.int 1))) oNo) aNil)) aNil)))) (pD (dTup (aCons (dCB cLen (aCons (dVar 3) aNil)) (aCons (dCB cTup (aCons (dOp oAddX (dVar 5) (dCut (dVar 5) oNo (oSome (dC (.int 1))))) aNil)) aNil))))) (dSeq (dIfS (tCm (oIsB true) (dCall (Ψ_is_cover gm) RX (aCons (dVar 14) (aCons (dVar 1) (aCons (dTup (aCons (dCB cTup (aCons (dVar 4) aNil)) (aCons (dCB cTup (aCons (dCut (dVar 6) (oSome (dC (.int 1))) oNo) aNil)) aNil))) aNil)))) (dC (.bl false))) (dRet (dC (.bl false))) (dNext)) (dRet (dOp (oIsB false) (dCall (Ψ_is_cover gm) RX (aCons (dVar 15) (aCons (dVar 1) (aCons (dTup (aCons (dCB cTup (aCons (dVar 4) aNil)) (aCons (dCB cTup (aCons (dOp oAddX (dVar 6) (dCut (dVar 6) oNo (oSome (dC (.int 1))))) aNil)) aNil))) aNil)))) (dC (.bl false))))))))))))))))) ⟨slots0 true 16 ds, c⟩ { nx := fun s => R .non s.c, rt := fun d s => R d s.c }
end K74
namespace K74
open PySem PySem.Spec PyProof.Rows L2 DL
open K74h (top ini)
abbrev FnP (K : PySem.W.Frag) (x : Str) (st : Stmt) (f : Addr) (fd : FuncData) : Prop := FunD K x x (defArgs st) (defBody st) (defScope st) [] [] f fd
/-- what is known of an own class -/
structure ObjK (K : PySem.W.Frag) (mg : Str → Option Value) (x : Str) (C : Addr) (fls : List Str) : Prop where
  gl : mg x = some (.ref C)
  cl : Cls K C
  na : ∀ f ∈ fls, NoAttr K C f
  ik : IsK K C
structure Bs (mg : Str → Option Value) : Prop where
  isinstance : mg "isinstance" = none
  int : mg "int" = none
  bool : mg "bool" = none
  str : mg "str" = none
  len : mg "len" = none
  all : mg "all" = none
  any : mg "any" = none
  sum : mg "sum" = none
  tuple : mg "tuple" = none
  list : mg "list" = none
  range : mg "range" = none
  enumerate : mg "enumerate" = none
  zip : mg "zip" = none
  min : mg "min" = none
  max : mg "max" = none
  abs : mg "abs" = none
  sorted : mg "sorted" = none
  set : mg "set" = none
  repr : mg "repr" = none
  dict : mg "dict" = none
section
variable {P : Program} {w : World} {K : PySem.W.Frag} {mg : Str → Option Value} {base : Heap} {f : Addr} {fd : FuncData} {T : List (Addr × Str)} {gm : Gm}
end
/-! ### the pen (as in k82) -/
/-- all but the pen stands -/
def Kp (p : Addr) (H H' : Hp) : Prop := ∀ b o, b ≠ p → H b = some o → H' b = some o
theorem Kp.refl (p : Addr) (H : Hp) : Kp p H H := fun _ _ _ e => e
theorem Kp.tr {p : Addr} {H H1 H2 : Hp} (a : Kp p H H1) (b : Kp p H1 H2) : Kp p H H2 := fun c o n e => b c o n (a c o n e)
theorem Kp.put {p : Addr} {H : Hp} {o : HO} : Kp p H (upd H p o) := fun b u n e => (upd_ne n).trans e
def spDraw : Sp := fun vs H Q _ => ∃ (p L : Addr) (m c : Int), vs = [.ref p, .int m] ∧ 0 < m ∧ m < 1073741824 ∧ PenAt H p L c ∧ c < 1099511627776 ∧
  ∀ (r : Int) (H' : Hp), 0 ≤ r → r < m → PenAt H' p L (c + 1) → Kp p H H' → (∀ b, H b = none → H' b = none) → Q (.int r) H'
abbrev sDraw : Stmt := top 57
theorem scDraw : FnScope ["pen", "many", "cell", "digit", "blend"] ["pen", "many"] (defScope sDraw) := ⟨rfl, rfl, rfl, by decide +kernel, rfl, by decide +kernel, by decide +kernel⟩
theorem sq_put {K : PySem.W.Frag} {H : Hp} {p L : Addr} {kvs : List (Key × V)} {o : HO} {xs : List V} (hp : H p = some (.dK kvs)) (h : SqL K H L xs) : SqL K (upd H p o) L xs := by
  rcases h with h | h
  · have ne : L ≠ p := by
      intro e
      rcases h with h | ⟨u, h⟩
      · rw [e, hp] at h; cases h
      · rw [e, hp] at h; cases h
    rcases h with h | ⟨u, h⟩
    · exact .inl (.inl ((upd_ne ne).trans h))
    · exact .inl (.inr ⟨u, (upd_ne ne).trans h⟩)
  · exact .inr h
/-! what the pen's dict tells, what is put -/
section
variable {H : Hp} {p L : Addr} {a d c f v : Int} {K : PySem.W.Frag}
abbrev penO (L : Addr) (a d c f : Int) : HO := .dK (penL L a d c f)
theorem gC (h : H p = some (penO L a d c f)) : DGet H p (.str "cells") (some (.ref L)) := .inl ⟨_, .inr "cells", .inl h, rfl, rfl⟩
theorem gA (h : H p = some (penO L a d c f)) : DGet H p (.str "at") (some (.int a)) := .inl ⟨_, .inr "at", .inl h, rfl, rfl⟩
theorem gD (h : H p = some (penO L a d c f)) : DGet H p (.str "digits") (some (.int d)) := .inl ⟨_, .inr "digits", .inl h, rfl, rfl⟩
theorem gN (h : H p = some (penO L a d c f)) : DGet H p (.str "count") (some (.int c)) := .inl ⟨_, .inr "count", .inl h, rfl, rfl⟩
theorem gF (h : H p = some (penO L a d c f)) : DGet H p (.str "fold") (some (.int f)) := .inl ⟨_, .inr "fold", .inl h, rfl, rfl⟩
theorem five : (5 : Nat) < sizeLine := by decide
theorem pA (h : H p = some (penO L a d c f)) : DPut H p (.str "at") (.int v) (upd H p (penO L v d c f)) := .inl ⟨_, .inr "at", h, rfl, five, rfl⟩
theorem putD (h : H p = some (penO L a d c f)) : DPut H p (.str "digits") (.int v) (upd H p (penO L a v c f)) := .inl ⟨_, .inr "digits", h, rfl, five, rfl⟩
theorem pN (h : H p = some (penO L a d c f)) : DPut H p (.str "count") (.int v) (upd H p (penO L a d v f)) := .inl ⟨_, .inr "count", h, rfl, five, rfl⟩
theorem pF (h : H p = some (penO L a d c f)) : DPut H p (.str "fold") (.int v) (upd H p (penO L a d c v)) := .inl ⟨_, .inr "fold", h, rfl, five, rfl⟩
end
section
variable {P : Program} {w : World} {K : PySem.W.Frag} {mg : Str → Option Value} {base : Heap} {f : Addr} {fd : FuncData}
theorem ok_draw0 (F : FnP K "_law_draw" sDraw f fd) (mi : mg "int" = none) (ml : mg "len" = none) : FnOk P w K mg base (L2.CX P w) 1 f fd ["pen", "many"] spDraw := by
  refine F.ok scDraw (fun vs H Q E h => ?_) (fun cdv A outer s H vs Q E hr h => ?_)
  · obtain ⟨p, L, m, c, rfl, _⟩ := h
    rfl
  · obtain ⟨p, L, m, c, rfl, m0, m1, ⟨ns, at_, dg, cn, fo, hp, hLL, a0, a1, hn, d0, c0, c1, f0, f1⟩, hc, q⟩ := h
    have hL : SqL K H L (ns.map V.int) := .inl (.inl hLL)
    have Lp : L ≠ p := fun z => by rw [z, hp] at hLL; cases hLL
    have hu := hu_of hr
    refine ⟨_, PSs.nox (pss_cons (ps_dput hu (pv 0) pe_str (pe_op op_add (pe_dget hu (pv 0) pe_str (fun _ _ => rfl)) pe_int) rfl)
      (C8.pss_cut (ps_if (PW.pt (pw_and (pt_cmpR op_eq (pe_dget hu (pv 0) pe_str (fun _ _ => rfl)) pe_int (nomark _)) (pw_and1 (pt_cmpR op_lt (pe_dget hu (pv 0) pe_str (fun _ _ => rfl)) (pe_callB call_len_seq (by rfl) ml PySem.boot_len (pa_cons (pe_dget hu (pv 0) pe_str (fun _ _ => rfl)) pa_nil)) (nomark _)))))
        (pss_cons (ps_set (i := 2) scDraw.nd rfl (.inl rfl) (pe_ix ix_list (pe_dget hu (pv 0) pe_str (fun _ _ => rfl)) (pe_dget hu (pv 0) pe_str (fun _ _ => rfl)) (fun _ _ => rfl)))
        (pss_cons (ps_dput hu (pv 0) pe_str (pe_op op_add (pe_dget hu (pv 0) pe_str (fun _ _ => rfl)) pe_int) rfl)
        (pss_one (ps_if (pt_cmpR op_ge (pv 2) (pe_op op_pow pe_int pe_int) (nomark _))
          (pss_one (ps_dput hu (pv 0) pe_str (pe_op op_sub (pv 2) (pe_op op_pow pe_int pe_int)) rfl))
          (pss_one (ps_dput hu (pv 0) pe_str (pe_op op_mod (pe_callTy call_int1 (by rfl) mi (by decide +kernel) (pa_cons (pe_op op_add (pe_op op_mul (pe_dget hu (pv 0) pe_str (fun _ _ => rfl)) pe_int) (pv 2)) pa_nil)) pe_int) rfl))))))
        pss_nil)
      (pss_cons (ps_if (pt_cmpR op_gt (pe_dget hu (pv 0) pe_str (fun _ _ => rfl)) pe_int (nomark _))
        (pss_cons (ps_set (i := 3) scDraw.nd rfl (.inl rfl) (pe_op op_mod (pe_callTy call_int1 (by rfl) mi (by decide +kernel) (pa_cons (pe_dget hu (pv 0) pe_str (fun _ _ => rfl)) pa_nil)) (pv 1)))
        (pss_cons (ps_dput hu (pv 0) pe_str (pe_op op_fdiv (pe_dget hu (pv 0) pe_str (fun _ _ => rfl)) (pv 1)) rfl)
        (pss_one (ps_ret (pv 3)))))
        pss_nil)
      (pss_cons (ps_set (i := 4) scDraw.nd rfl (.inl rfl) (pe_op op_add (pe_op op_add (pe_dget hu (pv 0) pe_str (fun _ _ => rfl)) (pe_op op_mul (pe_dget hu (pv 0) pe_str (fun _ _ => rfl)) pe_int)) pe_int))
      (pss_one (ps_ret (pe_op op_mod (pe_op op_fdiv (pe_callTy call_int1 (by rfl) mi (by decide +kernel) (pa_cons (pe_op op_mod (pe_op op_pow (pv 4) pe_int) pe_int) pa_nil)) pe_int) (pv 1)))))))), ?_⟩
    -- count
    refine ⟨_, rfl, p, .int cn, rfl, gN hp, cn, 1, rfl, rfl, _, rfl, p, _, rfl, pN hp, ?_⟩
    refine ⟨fun σ H' => ∃ (a d f : Int) (y2 : Option V), σ = [some (.ref p), some (.int m), y2, none, none] ∧ H' = upd H p (penO L a d (cn + 1) f) ∧ 0 ≤ a ∧ a ≤ ns.length ∧ 0 ≤ d ∧ 0 ≤ f ∧ f < 2147483477, ?_, ?_⟩
    · -- if digits == 0 and at < len(cells)
      have h1 : (upd H p (penO L at_ dg (cn + 1) fo)) p = some (penO L at_ dg (cn + 1) fo) := upd_same
      refine ⟨_, rfl, p, _, rfl, gD h1, rfl, _, rfl, ite2 (fun _ => ?_) (fun _ => ?_)⟩
      · refine ⟨_, rfl, p, _, rfl, gA h1, _, rfl, p, _, rfl, gC h1, L, _, rfl, .inl (sq_put hp hL), at_, _, rfl, rfl, _, rfl, ite2 (fun hlt => ?_) (fun _ => ?_)⟩
        · have hlt : at_ < (ns.length : Int) := by
            have := of_decide_eq_true hlt
            rwa [List.length_map] at this
          obtain ⟨j, rfl⟩ : ∃ j : Nat, at_ = (j : Int) := ⟨at_.toNat, by omega⟩
          have hj : j < ns.length := by omega
          have g : (ns.map V.int)[j]? = some (.int ns[j]) := by
            rw [List.getElem?_map, List.getElem?_eq_getElem hj]
            rfl
          -- cell = cells[at]; at = at + 1
          refine ⟨_, rfl, p, _, rfl, gC h1, _, rfl, p, _, rfl, gA h1, L, _, _, _, rfl, rfl, sq_put hp hL, atI_nat g, ?_⟩
          refine ⟨_, rfl, p, _, rfl, gA h1, _, 1, rfl, rfl, _, rfl, p, _, rfl, pA h1, ?_⟩
          have h2 : (upd (upd H p (penO L j dg (cn + 1) fo)) p (penO L (j + 1) dg (cn + 1) fo)) p = some (penO L (j + 1) dg (cn + 1) fo) := upd_same
          refine ⟨_, rfl, 10, 18, rfl, rfl, ⟨by decide, by decide, by decide⟩, _, _, rfl, rfl, _, rfl, ite2 (fun hge => ?_) (fun _ => ?_)⟩
          · have hge := of_decide_eq_true hge
            refine ⟨_, rfl, 10, 18, rfl, rfl, ⟨by decide, by decide, by decide⟩, _, _, rfl, rfl, _, rfl, p, _, rfl, putD h2, ?_⟩
            exact ⟨_, _, _, _, rfl, by rw [upd_upd, upd_upd], by omega, by omega, by omega, f0, f1⟩
          · refine ⟨_, rfl, p, _, rfl, gF h2, _, 40993, rfl, rfl, .inl (by omega), _, rfl, _, _, rfl, rfl, .inl ⟨_, rfl, _, 2147483477, rfl, rfl, (by show (0 : Int) < 2147483477; decide), _, rfl, p, _, rfl, pF h2, ?_⟩⟩
            exact ⟨_, _, _, _, rfl, by rw [upd_upd, upd_upd], by omega, by omega, d0, Int.emod_nonneg _ (by decide), Int.emod_lt_of_pos _ (by decide)⟩
        · exact ⟨_, _, _, _, rfl, rfl, a0, a1, d0, f0, f1⟩
      · exact ⟨_, _, _, _, rfl, rfl, a0, a1, d0, f0, f1⟩
    · rintro σ' H' ⟨a, d, f, y2, rfl, rfl, b0, b1, e0, g0, g1⟩
      have h1 : (upd H p (penO L a d (cn + 1) f)) p = some (penO L a d (cn + 1) f) := upd_same
      have fr : ∀ {o : HO}, (∀ b, H b = none → (upd H p o) b = none) := fun {o} b hb => (upd_ne (fun e => by rw [e, hp] at hb; cases hb)).trans hb
      -- if digits > 0
      refine ⟨_, rfl, p, _, rfl, gD h1, _, 0, rfl, rfl, _, rfl, ite2 (fun _ => ?_) (fun _ => ?_)⟩
      · refine ⟨_, rfl, p, _, rfl, gD h1, .inl ⟨_, rfl, _, rfl, _, m, rfl, rfl, m0, ?_⟩⟩
        refine ⟨_, rfl, p, _, rfl, gD h1, _, rfl, _, m, rfl, rfl, ⟨m0, m1⟩, _, rfl, p, _, rfl, putD h1, _, rfl, ?_⟩
        refine q _ _ (Int.emod_nonneg _ (by omega)) (Int.emod_lt_of_pos _ m0) ⟨ns, a, _, _, f, upd_same, (upd_ne Lp).trans ((upd_ne Lp).trans hLL), b0, b1, hn, Int.ediv_nonneg e0 (by omega), by omega, by omega, g0, g1⟩ (Kp.put.tr Kp.put) ?_
        rw [upd_upd]
        exact fr
      · refine ⟨_, rfl, p, _, rfl, gF h1, _, rfl, p, _, rfl, gN h1, _, 7873, rfl, rfl, .inl (by omega), _, _, rfl, rfl, _, 71, rfl, rfl, ?_⟩
        refine ⟨_, rfl, _, 29, rfl, rfl, ⟨by decide, by decide, by omega⟩, _, 2305843009213693951, rfl, rfl, (by show (0 : Int) < 2305843009213693951; decide), .inl ⟨_, rfl, _, 128, rfl, rfl, ⟨by decide, by decide⟩, _, rfl, _, m, rfl, rfl, m0, ?_⟩⟩
        exact q _ _ (Int.emod_nonneg _ (by omega)) (Int.emod_lt_of_pos _ m0) ⟨ns, a, d, _, f, h1, (upd_ne Lp).trans hLL, b0, b1, hn, e0, by omega, by omega, g0, g1⟩ Kp.put fr
theorem sqL_ex {K : PySem.W.Frag} {H H' : Hp} {L : Addr} {xs : List V} (e : Ex H H') (h : SqL K H L xs) : SqL K H' L xs := by
  rcases h with (h | ⟨u, h⟩) | h
  · exact .inl (.inl (e _ _ h))
  · exact .inl (.inr ⟨u, e _ _ h⟩)
  · exact .inr h
theorem sq_new {K : PySem.W.Frag} {H : Hp} {p L : Addr} {o : HO} {xs : List V} (hp : H p = none) (h : SqL K H L xs) : SqL K (upd H p o) L xs := sqL_ex (ex_new hp) h

abbrev sPen : Stmt := top 56
theorem scPen : FnScope ["script", "fold", "cell"] ["script"] (defScope sPen) := ⟨rfl, rfl, rfl, by decide +kernel, rfl, by decide +kernel, by decide +kernel⟩
def spPen (K : PySem.W.Frag) : Sp := fun vs H Q _ => ∃ (a : Addr) (ns : List Int), vs = [.ref a] ∧ SqL K H a (ns.map V.int) ∧ ns.length ≤ 63 ∧ ∀ p L H', H p = none → Ex H H' → PenAt H' p L 0 → Q (.ref p) H'
theorem ok_pen (B : Bs mg) (F : FnP K "_law_pen" sPen f fd) : FnOk P w K mg base (L2.CX P w) 1 f fd ["script"] (spPen K) := by
  have S := scPen
  refine F.ok scPen (fun vs H Q E h => ?_) (fun cdv A outer s H vs Q E hr h => ?_)
  · obtain ⟨a, ns, rfl, _⟩ := h
    rfl
  · obtain ⟨a, ns, rfl, ha, hn, q⟩ := h
    refine ⟨_, PSs.nox (pss_cons (ps_set (i := 1) S.nd rfl (.inl rfl) pe_int)
      (pss_cons (ps_for PassesOwn.never rfl (pi_list (pv 0)) (pg_name (i := 2) S.nd rfl (.inl rfl))
        (pss_one (ps_set (i := 1) S.nd rfl (.inl rfl) (pe_op op_mod (pe_callTy call_int1 (by rfl) B.int (by decide +kernel) (pa_cons (pe_op op_add (pe_op op_mul (pv 1) pe_int) (pv 2)) pa_nil)) pe_int))))
      (pss_one (ps_ret (pe_disp (pps_cons pe_str (pe_callTy call_list_of (by rfl) B.list boot_lst (pa_cons (pv 0) pa_nil)) (pps_cons pe_str pe_int (pps_cons pe_str pe_int (pps_cons pe_str pe_int (pps_cons pe_str (pv 1) pps_nil))))) rfl rfl (by simp) (by decide)))))), ?_⟩
    refine ⟨_, rfl, _, rfl, ⟨_, ha⟩, ?_⟩
    refine for_list (fun i σ H' => H' = H ∧ ∃ (m : Int) (y : Option V), σ = [some (.ref a), some (.int m), y] ∧ 0 ≤ m ∧ m < 2147483477) ⟨rfl, 0, none, rfl, by decide, by decide⟩ (fun _ _ _ _ e => by rw [e.1]; exact ha) ?_ ?_
    · rintro i x σ _ hx ⟨rfl, m, y, rfl, m0, m1⟩
      rw [List.getElem?_map] at hx
      obtain ⟨z, _, rfl⟩ := Option.map_eq_some_iff.mp hx
      refine ⟨_, rfl, _, 97, rfl, rfl, .inl (by omega), _, rfl, _, _, rfl, rfl, .inl ⟨_, rfl, _, 999999733, rfl, rfl, (by show (0 : Int) < 999999733; decide), ?_⟩⟩
      exact ⟨rfl, _, _, rfl, Int.emod_nonneg _ (by decide), by have := Int.emod_lt_of_pos ((m * 97 + z)) (show (0 : Int) < 999999733 by decide); omega⟩
    · rintro σ H2 ⟨e, m, y, rfl, m0, m1⟩
      subst e
      intro p hp
      refine ⟨_, rfl, _, _, rfl, .inl (sq_new hp ha), fun l hl => ?_⟩
      have lp : p ≠ l := fun z => by rw [z, upd_at] at hl; cases hl
      refine ⟨_, rfl, (upd_ne lp).trans upd_at, [(.inr "cells", .ref l), (.inr "at", .int 0), (.inr "digits", .int 0), (.inr "count", .int 0), (.inr "fold", .int m)], rfl, (by simp), ?_⟩
      have lh : H2 l = none := (upd_ne (Ne.symm lp)).symm.trans hl
      refine q p l _ hp ?_ ⟨ns, 0, 0, 0, m, upd_at, (upd_ne (Ne.symm lp)).trans upd_at, by decide, by omega, hn, by decide, by decide, by decide, m0, m1⟩
      intro b o e
      have b1 : b ≠ p := fun z => by rw [z, hp] at e; cases e
      have b2 : b ≠ l := fun z => by rw [z, lh] at e; cases e
      exact (upd_ne b1).trans ((upd_ne b2).trans ((upd_ne b1).trans e))


def Ok__law_draw (P : Program) (w : World) (K : PySem.W.Frag) (mg : Str → Option Value) (base : Heap) (T : List (Addr × Str)) (gm : Gm) : Prop := ∃ f fd, Gd.FnG P w K mg base (L2.CX P w) 1 f fd ["pen", "many"] (spF true T (Ψ__law_draw gm)) ∧ FnP K "_law_draw" sDraw f fd ∧ mg "_law_draw" = some (.ref f)
theorem ok__law_draw {T : List (Addr × Str)} {gm : Gm} (B : Bs mg) (Fd : FnP K "_law_draw" sDraw f fd) (gl : mg "_law_draw" = some (.ref f)) : Ok__law_draw P w K mg base T gm := by
  refine ⟨f, fd, (Gd.FnG.of (ok_draw0 Fd B.int B.len)).imp fun vs H Q E h => ?_, Fd, gl⟩
  obtain ⟨M, us, ds, c, R, RX, rfl, h2, ht, rfl, h4, h5, ⟨m, rfl, m0, m1, c0, c1, hR⟩, h7, _⟩ := h
  obtain ⟨p, L, ep⟩ : ∃ p L, M.pen = some (p, L) := by
    cases q : M.pen with
    | none => rw [q] at h2; cases h2
    | some pl => exact ⟨pl.1, pl.2, rfl⟩
  obtain ⟨pa, gp⟩ := h4.pen p L ep
  cases h5 with
  | cons a t =>
    cases a
    cases t
    refine ⟨p, L, m, c, by rw [ep]; rfl, m0, m1, pa, by omega, fun r H' r0 r1 pa' kp old => ?_⟩
    refine h7 _ _ _ M.G0 H' (hR r r0 r1) ⟨Ex.rf _, fun b o e => kp b o (fun z => by rw [z, gp] at e; cases e) (h4.ex b o e), fun b hb hn => ?_, fun p' L' e => ?_, ?_⟩ (.int r)
    · have nb := hn.1 p L ep
      cases q : M.H0 b with
      | none => exact absurd q hb
      | some o => exact ⟨kp b o nb q, rfl⟩
    · rw [ep] at e
      cases e
      exact ⟨pa', gp⟩
    · exact ⟨tabs_keep h4.tab.1 (fun b ps e => kp b _ (fun z => by
        obtain ⟨ns, a1, a2, a3, a4, a5, _⟩ := pa
        rw [z, a5] at e
        cases e) e) (Ex.rf _), h4.tab.2⟩
end

section
variable {P : Program} {w : World} {K : PySem.W.Frag} {mg : Str → Option Value} {base : Heap} {f : Addr} {fd : FuncData} {T : List (Addr × Str)} {gm : Gm}
theorem sc_in_tuples : FnScope ["value", "item"] ["value"] (defScope (top 12)) := ⟨rfl, rfl, rfl, by decide +kernel, rfl, by decide +kernel, by decide +kernel⟩
theorem ok_in_tuples0 (B : Bs mg) (Fd : FnP K "in_tuples" (top 12) f fd) (gl : mg "in_tuples" = some (.ref f)) : ∀ n : Nat, Gd.FnG P w K mg base (L2.CX P w) n f fd ["value"] (spF false [] (Φt n))
  | 0 => by
    have no : ∀ vs H Q E, ¬ spF false [] (Φt 0) vs H Q E := fun vs H Q E h => by
      obtain ⟨M, us, ds, c, R, RX, _, _, _, _, _, _, ⟨d, _, h, _⟩, _⟩ := h
      unfold dep at h
      exact absurd h (by decide)
    exact ⟨fun vs H Q E h => (no _ _ _ _ h).elim, fun A o s H a us vs Q E hr hg e0 hb hv h => (no _ _ _ _ h).elim⟩
  | n + 1 => by
    have IH := ok_in_tuples0 B Fd gl n
    have S := sc_in_tuples
    refine fn_of Fd S (fun ds c R RX h => ?_) (fun cdv A outer s H E hr hG M RX hH hp ht ni hE => ?_)
    · obtain ⟨d, rfl, _⟩ := h
      rfl
    · refine ⟨_, s_cons (s_if (t_not (t_val (e_isT B.isinstance (a_cons (e_var 0 (fun _ => pv 0)) (a_cons (e_tup (a_cons (e_ty B.tuple boot_tup (fun _ => rfl)) (a_cons (e_ty B.list boot_lst (fun _ => rfl)) a_nil))) a_nil)) (fun _ => rfl)))) (s_one (s_ret (e_var 0 (fun _ => pv 0)))) s_nil)
        (s_one (s_ret (e_tuple B.tuple (a_cons (e_fz (l_lc (own := [("item", 1)]) (fun _ => blkOk_by (own := [("item", 1)]) (N := ["value", "item"]) (sc := defScope (top 12)) (by decide +kernel)) (fun _ => S.nd) (id_seqV 0 (fun _ => pv 0)) (g_name 1 (fun _ => pg_name (i := 1) S.nd rfl (.inl rfl))) ts_nil
          (e_call (RX := fun _ _ => False) IH (Nat.le_refl _) gl Fd.kp (Fd.bindsN fun _ _ _ _ _ _ us hl => match us, hl with | [_], _ => rfl) (fun _ _ _ _ _ _ z => z.elim) ni (a_cons (e_var 1 (fun _ => pv 1)) a_nil) (fun _ => rfl)))) a_nil) (fun _ => rfl)))), fun ds c R h => ?_⟩
      obtain ⟨d, rfl, hd, h⟩ := h
      have yes : ∀ x : List D, depL n x = true → x.length ≤ 1000 → (tups d = .tup (tupsL x)) → lcL [1] (fun d s R => R (s.set 1 (.d d))) dYes (dCall (Φt n) (fun _ _ => False) (aCons (dVar 1) aNil)) (fun ds s1 => R (.tup ds) s1.c) [.d d, .no] [] x c := fun x hx hl he => by
        refine lc_tups x [] (by simp; omega) hx ?_
        rw [he] at h
        exact h
      cases d with
      | lst x =>
        unfold dep at hd
        rw [Bool.and_eq_true] at hd
        have := yes x hd.2 (of_decide_eq_true hd.1) rfl
        exact ⟨by decide, ⟨["tuple", "list"], rfl, by decide, rfl, this⟩⟩
      | tup x =>
        unfold dep at hd
        rw [Bool.and_eq_true] at hd
        have := yes x hd.2 (of_decide_eq_true hd.1) rfl
        exact ⟨by decide, ⟨["tuple", "list"], rfl, by decide, rfl, this⟩⟩
      | _ =>
        first
          | exact ⟨by decide, ⟨["tuple", "list"], rfl, by decide, h⟩⟩
          | (unfold dep at hd; cases hd)
def Ok_in_tuples (P : Program) (w : World) (K : PySem.W.Frag) (mg : Str → Option Value) (base : Heap) (T : List (Addr × Str)) (gm : Gm) : Prop := ∃ f fd, Gd.FnG P w K mg base (L2.CX P w) 12 f fd ["value"] (spF false [] (Ψ_in_tuples gm)) ∧ FnP K "in_tuples" (top 12) f fd ∧ mg "in_tuples" = some (.ref f)
theorem ok_in_tuples (B : Bs mg) (Fd : FnP K "in_tuples" (top 12) f fd) (gl : mg "in_tuples" = some (.ref f)) : Ok_in_tuples P w K mg base T gm := ⟨f, fd, ok_in_tuples0 B Fd gl 12, Fd, gl⟩

theorem sc__law_fault : FnScope ["work", "fault"] ["work"] (defScope (top 70)) := ⟨rfl, rfl, rfl, by decide +kernel, rfl, by decide +kernel, by decide +kernel⟩
def Ok__law_fault (P : Program) (w : World) (K : PySem.W.Frag) (mg : Str → Option Value) (base : Heap) (T : List (Addr × Str)) (gm : Gm) : Prop := ∃ f fd, Gd.FnG P w K mg base (L2.CX P w) 40 f fd ["work"] (spF false [] (Ψ__law_fault gm)) ∧ FnP K "_law_fault" (top 70) f fd ∧ mg "_law_fault" = some (.ref f) ∧ Gd.FnG P w K mg base (L2.CX P w) 40 f fd ["work"] (spF false [] (Φ_fault P w K mg base 39 (tags gm)))
theorem fault_is (P : Program) (w : World) (K : PySem.W.Frag) (mg : Str → Option Value) (base : Heap) (h : ∀ d Ψ, gm.clo d Ψ → CloD P w K mg base 39 d Ψ) (ds : List D) (c : Int) (R : D → Int → Prop) (RX : DX → Int → Prop) (x : Ψ__law_fault gm ds c R RX) : Φ_fault P w K mg base 39 (tags gm) ds c R RX := by
  obtain ⟨d, env, Ψ, e, hf, hc, hp⟩ := x
  exact ⟨d, env, Ψ, e, hf, h d Ψ hc, hp⟩
theorem ok__law_fault (Fd : FnP K "_law_fault" (top 70) f fd) (TG : TagsOk K (tags gm)) (gl_BadLot : mg "BadLot" = some (.ref (gm.a "BadLot"))) (xf_BadLot : XfC K (gm.a "BadLot")) (no_BadLot : ∀ f ∈ (["lot"] : List Str), PySem.W.findIn K (.ref (gm.a "BadLot")) f = some none) (gl_BadNumber : mg "BadNumber" = some (.ref (gm.a "BadNumber"))) (xf_BadNumber : XfC K (gm.a "BadNumber")) (no_BadNumber : ∀ f ∈ (["what", "number"] : List Str), PySem.W.findIn K (.ref (gm.a "BadNumber")) f = some none) (gl_BadRow : mg "BadRow" = some (.ref (gm.a "BadRow"))) (xf_BadRow : XfC K (gm.a "BadRow")) (no_BadRow : ∀ f ∈ (["row"] : List Str), PySem.W.findIn K (.ref (gm.a "BadRow")) f = some none) (gl_BadTable : mg "BadTable" = some (.ref (gm.a "BadTable"))) (xf_BadTable : XfC K (gm.a "BadTable")) (no_BadTable : ∀ f ∈ (["table"] : List Str), PySem.W.findIn K (.ref (gm.a "BadTable")) f = some none) (gl_BadWeb : mg "BadWeb" = some (.ref (gm.a "BadWeb"))) (xf_BadWeb : XfC K (gm.a "BadWeb")) (no_BadWeb : ∀ f ∈ (["what", "value"] : List Str), PySem.W.findIn K (.ref (gm.a "BadWeb")) f = some none) (gl_TooMany : mg "TooMany" = some (.ref (gm.a "TooMany"))) (xf_TooMany : XfC K (gm.a "TooMany")) (no_TooMany : ∀ f ∈ (["what", "many", "limit"] : List Str), PySem.W.findIn K (.ref (gm.a "TooMany")) f = some none) (gl_Unlike : mg "Unlike" = some (.ref (gm.a "Unlike"))) (xf_Unlike : XfC K (gm.a "Unlike")) (no_Unlike : ∀ f ∈ (["what"] : List Str), PySem.W.findIn K (.ref (gm.a "Unlike")) f = some none) (gl : mg "_law_fault" = some (.ref f)) (hclo : ∀ d Ψ, gm.clo d Ψ → CloD P w K mg base 39 d Ψ) : Ok__law_fault P w K mg base T gm := by
  have S := sc__law_fault
  suffices O0 : Gd.FnG P w K mg base (L2.CX P w) 40 f fd ["work"] (spF false [] (Φ_fault P w K mg base 39 (tags gm))) from ⟨f, fd, O0.imp fun vs H Q E h => spF_imp (fault_is P w K mg base hclo) h, Fd, gl, O0⟩
  refine ok_fault Fd S TG fun X e1 e2 e3 e4 e5 hN hsc hs hf hr hG Wout tk => ?_
  subst e1 e2 e3 e4 e5
  have hi : X.N[1]? = some ("fault" : Str) := by rw [hN]; rfl
  have hk : X.env.kindOf ("fault" : Str) = some .local := by show X.env.scope.names.lookup _ = _; rw [hsc]; rfl
  have hN0 : X.N.Nodup := by rw [hN]; exact S.nd
  exact pss_cons (TryR.ps_tryR (i := 1) (n := "fault") (tb := tWork X.prog X.w X.K X.mg X.base 39) (l := (tags gm).map (clOf X.K)) hN0 hi hk hs hf tk (fun W pn xe tk' => pss_one (ps_expr (Clo.pe_cloW (X := X.tr pn xe) (i := 0) tk' hr hG (by show X.N[0]? = _; rw [hN]; rfl) (by show Vis X.env.scope _; rw [hsc]; exact Or.inl rfl)))) (.more (k := clOf X.K ("lot", gm.a "BadLot", ["lot"])) ⟨by show X.env.scope.names.lookup _ = _; rw [hsc]; rfl, by decide, .inl gl_BadLot⟩ (fun a oe cls d pn hz hf2 => pe_tup (pa_cons pe_str (pa_cons (pe_xf (X := X) xf_BadLot (by exact no_BadLot "lot" (by simp)) hz hf2 (pv 1 (by show X.N[1]? = _; rw [hN]; rfl) (by show Vis X.env.scope _; rw [hsc]; exact Or.inl rfl))) pa_nil))) (.more (k := clOf X.K ("number", gm.a "BadNumber", ["what", "number"])) ⟨by show X.env.scope.names.lookup _ = _; rw [hsc]; rfl, by decide, .inl gl_BadNumber⟩ (fun a oe cls d pn hz hf2 => pe_tup (pa_cons pe_str (pa_cons (pe_xf (X := X) xf_BadNumber (by exact no_BadNumber "what" (by simp)) hz hf2 (pv 1 (by show X.N[1]? = _; rw [hN]; rfl) (by show Vis X.env.scope _; rw [hsc]; exact Or.inl rfl))) (pa_cons (pe_xf (X := X) xf_BadNumber (by exact no_BadNumber "number" (by simp)) hz hf2 (pv 1 (by show X.N[1]? = _; rw [hN]; rfl) (by show Vis X.env.scope _; rw [hsc]; exact Or.inl rfl))) pa_nil)))) (.more (k := clOf X.K ("row", gm.a "BadRow", ["row"])) ⟨by show X.env.scope.names.lookup _ = _; rw [hsc]; rfl, by decide, .inl gl_BadRow⟩ (fun a oe cls d pn hz hf2 => pe_tup (pa_cons pe_str (pa_cons (pe_xf (X := X) xf_BadRow (by exact no_BadRow "row" (by simp)) hz hf2 (pv 1 (by show X.N[1]? = _; rw [hN]; rfl) (by show Vis X.env.scope _; rw [hsc]; exact Or.inl rfl))) pa_nil))) (.more (k := clOf X.K ("table", gm.a "BadTable", ["table"])) ⟨by show X.env.scope.names.lookup _ = _; rw [hsc]; rfl, by decide, .inl gl_BadTable⟩ (fun a oe cls d pn hz hf2 => pe_tup (pa_cons pe_str (pa_cons (pe_xf (X := X) xf_BadTable (by exact no_BadTable "table" (by simp)) hz hf2 (pv 1 (by show X.N[1]? = _; rw [hN]; rfl) (by show Vis X.env.scope _; rw [hsc]; exact Or.inl rfl))) pa_nil))) (.more (k := clOf X.K ("web", gm.a "BadWeb", ["what", "value"])) ⟨by show X.env.scope.names.lookup _ = _; rw [hsc]; rfl, by decide, .inl gl_BadWeb⟩ (fun a oe cls d pn hz hf2 => pe_tup (pa_cons pe_str (pa_cons (pe_xf (X := X) xf_BadWeb (by exact no_BadWeb "what" (by simp)) hz hf2 (pv 1 (by show X.N[1]? = _; rw [hN]; rfl) (by show Vis X.env.scope _; rw [hsc]; exact Or.inl rfl))) (pa_cons (pe_xf (X := X) xf_BadWeb (by exact no_BadWeb "value" (by simp)) hz hf2 (pv 1 (by show X.N[1]? = _; rw [hN]; rfl) (by show Vis X.env.scope _; rw [hsc]; exact Or.inl rfl))) pa_nil)))) (.more (k := clOf X.K ("many", gm.a "TooMany", ["what", "many", "limit"])) ⟨by show X.env.scope.names.lookup _ = _; rw [hsc]; rfl, by decide, .inl gl_TooMany⟩ (fun a oe cls d pn hz hf2 => pe_tup (pa_cons pe_str (pa_cons (pe_xf (X := X) xf_TooMany (by exact no_TooMany "what" (by simp)) hz hf2 (pv 1 (by show X.N[1]? = _; rw [hN]; rfl) (by show Vis X.env.scope _; rw [hsc]; exact Or.inl rfl))) (pa_cons (pe_xf (X := X) xf_TooMany (by exact no_TooMany "many" (by simp)) hz hf2 (pv 1 (by show X.N[1]? = _; rw [hN]; rfl) (by show Vis X.env.scope _; rw [hsc]; exact Or.inl rfl))) (pa_cons (pe_xf (X := X) xf_TooMany (by exact no_TooMany "limit" (by simp)) hz hf2 (pv 1 (by show X.N[1]? = _; rw [hN]; rfl) (by show Vis X.env.scope _; rw [hsc]; exact Or.inl rfl))) pa_nil))))) (.more (k := clOf X.K ("unlike", gm.a "Unlike", ["what"])) ⟨by show X.env.scope.names.lookup _ = _; rw [hsc]; rfl, by decide, .inl gl_Unlike⟩ (fun a oe cls d pn hz hf2 => pe_tup (pa_cons pe_str (pa_cons (pe_xf (X := X) xf_Unlike (by exact no_Unlike "what" (by simp)) hz hf2 (pv 1 (by show X.N[1]? = _; rw [hN]; rfl) (by show Vis X.env.scope _; rw [hsc]; exact Or.inl rfl))) pa_nil))) .none)))))))) (pss_one (ps_ret pe_non))

theorem sc_is_whole : FnScope ["value"] ["value"] (defScope (top 11)) := ⟨rfl, rfl, rfl, by decide +kernel, rfl, by decide +kernel, by decide +kernel⟩
def Ok_is_whole (P : Program) (w : World) (K : PySem.W.Frag) (mg : Str → Option Value) (base : Heap) (T : List (Addr × Str)) (gm : Gm) : Prop := ∃ f fd, Gd.FnG P w K mg base (L2.CX P w) 1 f fd ["value"] (spF false [] (Ψ_is_whole gm)) ∧ FnP K "is_whole" (top 11) f fd ∧ mg "is_whole" = some (.ref f)
theorem ok_is_whole (B : Bs mg) (Sy : Sys K) (Fd : FnP K "is_whole" (top 11) f fd) (gl : mg "is_whole" = some (.ref f)) : Ok_is_whole P w K mg base T gm := by
  have S := sc_is_whole
  refine ⟨f, fd, fn_of Fd S (fun ds c R RX h => by have := h.1; simp [this]) (fun cdv A outer s H E hr hG M RX hH hp ht ni hE => ?_), Fd, gl⟩
  exact ⟨_, s_one (s_ret ((e_and (e_isi B.isinstance (a_cons (e_var 0 (fun _ => pv 0)) (a_cons (e_ty B.int boot_intD (fun _ => rfl)) a_nil)) (fun _ => rfl)) (e_one (e_not (e_isi B.isinstance (a_cons (e_var 0 (fun _ => pv 0)) (a_cons (e_ty B.bool boot_boolD (fun _ => rfl)) a_nil)) (fun _ => rfl))))))), fun ds c R h => h.2⟩
theorem sc_is_tuple_of : FnScope ["value", "many"] ["value", "many"] (defScope (top 13)) := ⟨rfl, rfl, rfl, by decide +kernel, rfl, by decide +kernel, by decide +kernel⟩
def Ok_is_tuple_of (P : Program) (w : World) (K : PySem.W.Frag) (mg : Str → Option Value) (base : Heap) (T : List (Addr × Str)) (gm : Gm) : Prop := ∃ f fd, Gd.FnG P w K mg base (L2.CX P w) 1 f fd ["value", "many"] (spF false [] (Ψ_is_tuple_of gm)) ∧ FnP K "is_tuple_of" (top 13) f fd ∧ mg "is_tuple_of" = some (.ref f)
theorem ok_is_tuple_of (B : Bs mg) (Sy : Sys K) (Fd : FnP K "is_tuple_of" (top 13) f fd) (gl : mg "is_tuple_of" = some (.ref f)) : Ok_is_tuple_of P w K mg base T gm := by
  have S := sc_is_tuple_of
  refine ⟨f, fd, fn_of Fd S (fun ds c R RX h => by have := h.1; simp [this]) (fun cdv A outer s H E hr hG M RX hH hp ht ni hE => ?_), Fd, gl⟩
  exact ⟨_, s_one (s_ret ((e_and (e_isi B.isinstance (a_cons (e_var 0 (fun _ => pv 0)) (a_cons (e_ty B.tuple boot_tup (fun _ => rfl)) a_nil)) (fun _ => rfl)) (e_one (ec c_eq (e_len B.len (a_cons (e_var 0 (fun _ => pv 0)) a_nil) (fun _ => rfl)) (e_var 1 (fun _ => pv 1)) (nomark _)))))), fun ds c R h => h.2⟩
theorem sc_is_pair : FnScope ["value"] ["value"] (defScope (top 15)) := ⟨rfl, rfl, rfl, by decide +kernel, rfl, by decide +kernel, by decide +kernel⟩
def Ok_is_pair (P : Program) (w : World) (K : PySem.W.Frag) (mg : Str → Option Value) (base : Heap) (T : List (Addr × Str)) (gm : Gm) : Prop := ∃ f fd, Gd.FnG P w K mg base (L2.CX P w) 2 f fd ["value"] (spF false [] (Ψ_is_pair gm)) ∧ FnP K "is_pair" (top 15) f fd ∧ mg "is_pair" = some (.ref f)
theorem ok_is_pair (B : Bs mg) (Sy : Sys K) (Fd : FnP K "is_pair" (top 15) f fd) (h_is_whole : Ok_is_whole P w K mg base T gm) (gl : mg "is_pair" = some (.ref f)) : Ok_is_pair P w K mg base T gm := by
  obtain ⟨f_is_whole, fd_is_whole, O_is_whole, F_is_whole, G_is_whole⟩ := h_is_whole
  have S := sc_is_pair
  refine ⟨f, fd, fn_of Fd S (fun ds c R RX h => by have := h.1; simp [this]) (fun cdv A outer s H E hr hG M RX hH hp ht ni hE => ?_), Fd, gl⟩
  exact ⟨_, s_cons (s_if (t_w (w_or (t_not (t_val (e_isT B.isinstance (a_cons (e_var 0 (fun _ => pv 0)) (a_cons (e_tup (a_cons (e_ty B.tuple boot_tup (fun _ => rfl)) (a_cons (e_ty B.list boot_lst (fun _ => rfl)) a_nil))) a_nil)) (fun _ => rfl)))) (w_or1 (tc c_ne (e_len B.len (a_cons (e_var 0 (fun _ => pv 0)) a_nil) (fun _ => rfl)) (e_int) (nomark _))))) (s_one (s_ret (e_bl))) (s_nil)) (s_one (s_ret ((e_and (e_call (RX := RX) O_is_whole (by decide) G_is_whole F_is_whole.kp (F_is_whole.bindsN fun _ _ _ _ _ _ us hl => match us, hl with | [_], _ => rfl) hE ni (a_cons (e_ix (e_var 0 (fun _ => pv 0)) (e_int)) a_nil) (fun _ => rfl)) (e_and (e_call (RX := RX) O_is_whole (by decide) G_is_whole F_is_whole.kp (F_is_whole.bindsN fun _ _ _ _ _ _ us hl => match us, hl with | [_], _ => rfl) hE ni (a_cons (e_ix (e_var 0 (fun _ => pv 0)) (e_int)) a_nil) (fun _ => rfl)) (e_one (ec c_gt (e_ix (e_var 0 (fun _ => pv 0)) (e_int)) (e_int) (nomark _)))))))), fun ds c R h => h.2⟩
theorem sc_lowest : FnScope ["top", "bottom", "by"] ["top", "bottom"] (defScope (top 16)) := ⟨rfl, rfl, rfl, by decide +kernel, rfl, by decide +kernel, by decide +kernel⟩
def Ok_lowest (P : Program) (w : World) (K : PySem.W.Frag) (mg : Str → Option Value) (base : Heap) (T : List (Addr × Str)) (gm : Gm) : Prop := ∃ f fd, Gd.FnG P w K mg base (L2.CX P w) 1 f fd ["top", "bottom"] (spF false [] (Ψ_lowest gm)) ∧ FnP K "lowest" (top 16) f fd ∧ mg "lowest" = some (.ref f)
theorem ok_lowest (B : Bs mg) (Sy : Sys K) (Fd : FnP K "lowest" (top 16) f fd) (m_gcd : mg "gcd" = some (.builtin "math.gcd")) (gl : mg "lowest" = some (.ref f)) : Ok_lowest P w K mg base T gm := by
  have S := sc_lowest
  refine ⟨f, fd, fn_of Fd S (fun ds c R RX h => by have := h.1; simp [this]) (fun cdv A outer s H E hr hG M RX hH hp ht ni hE => ?_), Fd, gl⟩
  exact ⟨_, s_cons (s_setR (fun t h j => ps_set (i := 2) S.nd rfl (by first | exact .inl rfl | exact .inr rfl) (h j)) (e_if (tc c_gt (e_var 1 (fun _ => pv 1)) (e_int) (nomark _)) (e_gcd m_gcd (a_cons (e_var 0 (fun _ => pv 0)) (a_cons (e_var 1 (fun _ => pv 1)) a_nil)) (fun _ => rfl)) (e_neg (e_gcd m_gcd (a_cons (e_var 0 (fun _ => pv 0)) (a_cons (e_var 1 (fun _ => pv 1)) a_nil)) (fun _ => rfl))))) (s_one (s_ret (e_tup (a_cons (e_fdiv (e_var 0 (fun _ => pv 0)) (e_var 2 (fun _ => pv 2))) (a_cons (e_fdiv (e_var 1 (fun _ => pv 1)) (e_var 2 (fun _ => pv 2))) a_nil))))), fun ds c R h => h.2⟩
theorem sc_told : FnScope ["ratio"] ["ratio"] (defScope (top 17)) := ⟨rfl, rfl, rfl, by decide +kernel, rfl, by decide +kernel, by decide +kernel⟩
def Ok_told (P : Program) (w : World) (K : PySem.W.Frag) (mg : Str → Option Value) (base : Heap) (T : List (Addr × Str)) (gm : Gm) : Prop := ∃ f fd, Gd.FnG P w K mg base (L2.CX P w) 3 f fd ["ratio"] (spF false [] (Ψ_told gm)) ∧ FnP K "told" (top 17) f fd ∧ mg "told" = some (.ref f)
theorem ok_told (B : Bs mg) (Sy : Sys K) (Fd : FnP K "told" (top 17) f fd) (T_BadRow : Err P w K mg base "BadRow" (gm.a "BadRow") ["row"]) (h_is_whole : Ok_is_whole P w K mg base T gm) (h_is_pair : Ok_is_pair P w K mg base T gm) (h_lowest : Ok_lowest P w K mg base T gm) (gl : mg "told" = some (.ref f)) : Ok_told P w K mg base T gm := by
  obtain ⟨f_is_whole, fd_is_whole, O_is_whole, F_is_whole, G_is_whole⟩ := h_is_whole
  obtain ⟨f_is_pair, fd_is_pair, O_is_pair, F_is_pair, G_is_pair⟩ := h_is_pair
  obtain ⟨f_lowest, fd_lowest, O_lowest, F_lowest, G_lowest⟩ := h_lowest
  have S := sc_told
  refine ⟨f, fd, fn_of Fd S (fun ds c R RX h => by have := h.1; simp [this]) (fun cdv A outer s H E hr hG M RX hH hp ht ni hE => ?_), Fd, gl⟩
  exact ⟨_, s_cons (s_if (t_val (e_call (RX := RX) O_is_whole (by decide) G_is_whole F_is_whole.kp (F_is_whole.bindsN fun _ _ _ _ _ _ us hl => match us, hl with | [_], _ => rfl) hE ni (a_cons (e_var 0 (fun _ => pv 0)) a_nil) (fun _ => rfl))) (s_one (s_ret (e_tup (a_cons (e_var 0 (fun _ => pv 0)) (a_cons (e_int) a_nil))))) (s_nil)) (s_cons (s_if (t_not (t_val (e_call (RX := RX) O_is_pair (by decide) G_is_pair F_is_pair.kp (F_is_pair.bindsN fun _ _ _ _ _ _ us hl => match us, hl with | [_], _ => rfl) hE ni (a_cons (e_var 0 (fun _ => pv 0)) a_nil) (fun _ => rfl)))) (s_one (s_raise T_BadRow (by decide) (a_cons (e_var 0 (fun _ => pv 0)) a_nil) hE ni (fun _ => body_takes) (fun _ => rfl))) (s_nil)) (s_one (s_ret (e_call (RX := RX) O_lowest (by decide) G_lowest F_lowest.kp (F_lowest.bindsN fun _ _ _ _ _ _ us hl => match us, hl with | [_, _], _ => rfl) hE ni (a_cons (e_ix (e_var 0 (fun _ => pv 0)) (e_int)) (a_cons (e_ix (e_var 0 (fun _ => pv 0)) (e_int)) a_nil)) (fun _ => rfl))))), fun ds c R h => h.2⟩
theorem sc_is_item : FnScope ["field", "value"] ["field", "value"] (defScope (top 20)) := ⟨rfl, rfl, rfl, by decide +kernel, rfl, by decide +kernel, by decide +kernel⟩
def Ok_is_item (P : Program) (w : World) (K : PySem.W.Frag) (mg : Str → Option Value) (base : Heap) (T : List (Addr × Str)) (gm : Gm) : Prop := ∃ f fd, Gd.FnG P w K mg base (L2.CX P w) 3 f fd ["field", "value"] (spF false [] (Ψ_is_item gm)) ∧ FnP K "is_item" (top 20) f fd ∧ mg "is_item" = some (.ref f)
theorem ok_is_item (B : Bs mg) (Sy : Sys K) (Fd : FnP K "is_item" (top 20) f fd) (h_is_pair : Ok_is_pair P w K mg base T gm) (h_is_whole : Ok_is_whole P w K mg base T gm) (gl : mg "is_item" = some (.ref f)) : Ok_is_item P w K mg base T gm := by
  obtain ⟨f_is_pair, fd_is_pair, O_is_pair, F_is_pair, G_is_pair⟩ := h_is_pair
  obtain ⟨f_is_whole, fd_is_whole, O_is_whole, F_is_whole, G_is_whole⟩ := h_is_whole
  have S := sc_is_item
  refine ⟨f, fd, fn_of Fd S (fun ds c R RX h => by have := h.1; simp [this]) (fun cdv A outer s H E hr hG M RX hH hp ht ni hE => ?_), Fd, gl⟩
  exact ⟨_, s_cons (s_if (tc c_eq (e_var 0 (fun _ => pv 0)) (e_int) (nomark _)) (s_one (s_ret ((e_or (e_call (RX := RX) O_is_whole (by decide) G_is_whole F_is_whole.kp (F_is_whole.bindsN fun _ _ _ _ _ _ us hl => match us, hl with | [_], _ => rfl) hE ni (a_cons (e_var 1 (fun _ => pv 1)) a_nil) (fun _ => rfl)) (e_one (e_call (RX := RX) O_is_pair (by decide) G_is_pair F_is_pair.kp (F_is_pair.bindsN fun _ _ _ _ _ _ us hl => match us, hl with | [_], _ => rfl) hE ni (a_cons (e_var 1 (fun _ => pv 1)) a_nil) (fun _ => rfl))))))) (s_nil)) (s_one (s_ret ((e_and (e_call (RX := RX) O_is_whole (by decide) G_is_whole F_is_whole.kp (F_is_whole.bindsN fun _ _ _ _ _ _ us hl => match us, hl with | [_], _ => rfl) hE ni (a_cons (e_var 1 (fun _ => pv 1)) a_nil) (fun _ => rfl)) (e_one (e_chain (fun _ => op_le) (fun _ => op_lt) (e_int) (e_var 1 (fun _ => pv 1)) (e_var 0 (fun _ => pv 0)))))))), fun ds c R h => h.2⟩
theorem sc_item_of : FnScope ["field", "value"] ["field", "value"] (defScope (top 21)) := ⟨rfl, rfl, rfl, by decide +kernel, rfl, by decide +kernel, by decide +kernel⟩
def Ok_item_of (P : Program) (w : World) (K : PySem.W.Frag) (mg : Str → Option Value) (base : Heap) (T : List (Addr × Str)) (gm : Gm) : Prop := ∃ f fd, Gd.FnG P w K mg base (L2.CX P w) 4 f fd ["field", "value"] (spF false [] (Ψ_item_of gm)) ∧ FnP K "item_of" (top 21) f fd ∧ mg "item_of" = some (.ref f)
theorem ok_item_of (B : Bs mg) (Sy : Sys K) (Fd : FnP K "item_of" (top 21) f fd) (h_told : Ok_told P w K mg base T gm) (gl : mg "item_of" = some (.ref f)) : Ok_item_of P w K mg base T gm := by
  obtain ⟨f_told, fd_told, O_told, F_told, G_told⟩ := h_told
  have S := sc_item_of
  refine ⟨f, fd, fn_of Fd S (fun ds c R RX h => by have := h.1; simp [this]) (fun cdv A outer s H E hr hG M RX hH hp ht ni hE => ?_), Fd, gl⟩
  exact ⟨_, s_one (s_ret (e_if (tc c_eq (e_var 0 (fun _ => pv 0)) (e_int) (nomark _)) (e_call (RX := RX) O_told (by decide) G_told F_told.kp (F_told.bindsN fun _ _ _ _ _ _ us hl => match us, hl with | [_], _ => rfl) hE ni (a_cons (e_var 1 (fun _ => pv 1)) a_nil) (fun _ => rfl)) (e_var 1 (fun _ => pv 1)))), fun ds c R h => h.2⟩
theorem sc_is_web : FnScope ["value", "tie", "item"] ["value"] (defScope (top 25)) := ⟨rfl, rfl, rfl, by decide +kernel, rfl, by decide +kernel, by decide +kernel⟩
def Ok_is_web (P : Program) (w : World) (K : PySem.W.Frag) (mg : Str → Option Value) (base : Heap) (T : List (Addr × Str)) (gm : Gm) : Prop := ∃ f fd, Gd.FnG P w K mg base (L2.CX P w) 2 f fd ["value"] (spF false [] (Ψ_is_web gm)) ∧ FnP K "is_web" (top 25) f fd ∧ mg "is_web" = some (.ref f)
theorem ok_is_web (B : Bs mg) (Sy : Sys K) (Fd : FnP K "is_web" (top 25) f fd) (h_is_whole : Ok_is_whole P w K mg base T gm) (h_is_tuple_of : Ok_is_tuple_of P w K mg base T gm) (c_MOST_PLACES_kinds : ∃ t, mg "MOST_PLACES_kinds" = some (.int 8 t)) (c_MOST_TIES_kinds : ∃ t, mg "MOST_TIES_kinds" = some (.int 12 t)) (gl : mg "is_web" = some (.ref f)) : Ok_is_web P w K mg base T gm := by
  obtain ⟨f_is_whole, fd_is_whole, O_is_whole, F_is_whole, G_is_whole⟩ := h_is_whole
  obtain ⟨f_is_tuple_of, fd_is_tuple_of, O_is_tuple_of, F_is_tuple_of, G_is_tuple_of⟩ := h_is_tuple_of
  have S := sc_is_web
  refine ⟨f, fd, fn_of Fd S (fun ds c R RX h => by have := h.1; simp [this]) (fun cdv A outer s H E hr hG M RX hH hp ht ni hE => ?_), Fd, gl⟩
  exact ⟨_, s_cons (s_if (t_w (w_or (t_not (t_val (e_call (RX := RX) O_is_tuple_of (by decide) G_is_tuple_of F_is_tuple_of.kp (F_is_tuple_of.bindsN fun _ _ _ _ _ _ us hl => match us, hl with | [_, _], _ => rfl) hE ni (a_cons (e_var 0 (fun _ => pv 0)) (a_cons (e_int) a_nil)) (fun _ => rfl)))) (w_or (t_not (t_val (e_call (RX := RX) O_is_whole (by decide) G_is_whole F_is_whole.kp (F_is_whole.bindsN fun _ _ _ _ _ _ us hl => match us, hl with | [_], _ => rfl) hE ni (a_cons (e_ix (e_var 0 (fun _ => pv 0)) (e_int)) a_nil) (fun _ => rfl)))) (w_or1 (t_not (t_chain (fun _ => op_le) (fun _ => op_le) (e_int) (e_ix (e_var 0 (fun _ => pv 0)) (e_int)) (e_gint c_MOST_PLACES_kinds (fun _ => rfl)))))))) (s_one (s_ret (e_bl))) (s_nil)) (s_cons (s_if (t_w (w_or (t_not (t_val (e_isi B.isinstance (a_cons (e_ix (e_var 0 (fun _ => pv 0)) (e_int)) (a_cons (e_ty B.tuple boot_tup (fun _ => rfl)) a_nil)) (fun _ => rfl)))) (w_or1 (tc c_gt (e_len B.len (a_cons (e_ix (e_var 0 (fun _ => pv 0)) (e_int)) a_nil) (fun _ => rfl)) (e_gint c_MOST_TIES_kinds (fun _ => rfl)) (nomark _))))) (s_one (s_ret (e_bl))) (s_nil)) (s_cons (s_for (fun _ => body_own) (id_seq2 (e_ix (e_var 0 (fun _ => pv 0)) (e_int))) (g_name 1 (fun _ => pg_name (i := 1) S.nd rfl (by first | exact .inl rfl | exact .inr rfl))) (s_cons (s_if (t_w (w_or (t_not (t_val (e_call (RX := RX) O_is_tuple_of (by decide) G_is_tuple_of F_is_tuple_of.kp (F_is_tuple_of.bindsN fun _ _ _ _ _ _ us hl => match us, hl with | [_, _], _ => rfl) hE ni (a_cons (e_var 1 (fun _ => pv 1)) (a_cons (e_int) a_nil)) (fun _ => rfl)))) (w_or1 (t_not (t_val (e_all B.all (a_cons (e_fz (l_lc (own := [("item", 2)]) (fun _ => blkOk_by (own := [("item", 2)]) (N := ["value", "tie", "item"]) (sc := defScope (top 25)) (by decide +kernel)) (fun _ => S.nd) (id_seq2 (e_var 1 (fun _ => pv 1))) (g_name 2 (fun _ => pg_name (i := 2) S.nd rfl (by first | exact .inl rfl | exact .inr rfl))) ts_nil ((e_and (e_call (RX := (fun _ _ => False)) O_is_whole (by decide) G_is_whole F_is_whole.kp (F_is_whole.bindsN fun _ _ _ _ _ _ us hl => match us, hl with | [_], _ => rfl) (fun _ _ _ _ _ _ z => z.elim) ni (a_cons (e_var 2 (fun _ => pv 2)) a_nil) (fun _ => rfl)) (e_one (e_chain (fun _ => op_le) (fun _ => op_lt) (e_int) (e_var 2 (fun _ => pv 2)) (e_ix (e_var 0 (fun _ => pv 0)) (e_int)))))))) a_nil) (fun _ => rfl))))))) (s_one (s_ret (e_bl))) (s_nil)) (s_one (s_if (tc c_eq (e_ix (e_var 1 (fun _ => pv 1)) (e_int)) (e_ix (e_var 1 (fun _ => pv 1)) (e_int)) (nomark _)) (s_one (s_ret (e_bl))) (s_nil))))) (s_one (s_ret (e_bl))))), fun ds c R h => h.2⟩
theorem sc_web_from : FnScope ["what", "web", "made"] ["what", "web"] (defScope (top 26)) := ⟨rfl, rfl, rfl, by decide +kernel, rfl, by decide +kernel, by decide +kernel⟩
def Ok_web_from (P : Program) (w : World) (K : PySem.W.Frag) (mg : Str → Option Value) (base : Heap) (T : List (Addr × Str)) (gm : Gm) : Prop := ∃ f fd, Gd.FnG P w K mg base (L2.CX P w) 13 f fd ["what", "web"] (spF false [] (Ψ_web_from gm)) ∧ FnP K "web_from" (top 26) f fd ∧ mg "web_from" = some (.ref f)
theorem ok_web_from (B : Bs mg) (Sy : Sys K) (Fd : FnP K "web_from" (top 26) f fd) (T_BadWeb : Err P w K mg base "BadWeb" (gm.a "BadWeb") ["what", "value"]) (h_in_tuples : Ok_in_tuples P w K mg base T gm) (h_is_web : Ok_is_web P w K mg base T gm) (gl : mg "web_from" = some (.ref f)) : Ok_web_from P w K mg base T gm := by
  obtain ⟨f_in_tuples, fd_in_tuples, O_in_tuples, F_in_tuples, G_in_tuples⟩ := h_in_tuples
  obtain ⟨f_is_web, fd_is_web, O_is_web, F_is_web, G_is_web⟩ := h_is_web
  have S := sc_web_from
  refine ⟨f, fd, fn_of Fd S (fun ds c R RX h => by have := h.1; simp [this]) (fun cdv A outer s H E hr hG M RX hH hp ht ni hE => ?_), Fd, gl⟩
  exact ⟨_, s_cons (s_setR (fun t h j => ps_set (i := 2) S.nd rfl (by first | exact .inl rfl | exact .inr rfl) (h j)) (e_call (RX := RX) O_in_tuples (by decide) G_in_tuples F_in_tuples.kp (F_in_tuples.bindsN fun _ _ _ _ _ _ us hl => match us, hl with | [_], _ => rfl) hE ni (a_cons (e_var 1 (fun _ => pv 1)) a_nil) (fun _ => rfl))) (s_cons (s_if (t_not (t_val (e_call (RX := RX) O_is_web (by decide) G_is_web F_is_web.kp (F_is_web.bindsN fun _ _ _ _ _ _ us hl => match us, hl with | [_], _ => rfl) hE ni (a_cons (e_var 2 (fun _ => pv 2)) a_nil) (fun _ => rfl)))) (s_one (s_raise T_BadWeb (by decide) (a_cons (e_var 0 (fun _ => pv 0)) (a_cons (e_var 1 (fun _ => pv 1)) a_nil)) hE ni (fun _ => body_takes) (fun _ => rfl))) (s_nil)) (s_one (s_ret (e_var 2 (fun _ => pv 2))))), fun ds c R h => h.2⟩
theorem sc_need_field : FnScope ["field"] ["field"] (defScope (top 28)) := ⟨rfl, rfl, rfl, by decide +kernel, rfl, by decide +kernel, by decide +kernel⟩
def Ok_need_field (P : Program) (w : World) (K : PySem.W.Frag) (mg : Str → Option Value) (base : Heap) (T : List (Addr × Str)) (gm : Gm) : Prop := ∃ f fd, Gd.FnG P w K mg base (L2.CX P w) 3 f fd ["field"] (spF false [] (Ψ_need_field gm)) ∧ FnP K "need_field" (top 28) f fd ∧ mg "need_field" = some (.ref f)
theorem ok_need_field (B : Bs mg) (Sy : Sys K) (Fd : FnP K "need_field" (top 28) f fd) (T_BadNumber : Err P w K mg base "BadNumber" (gm.a "BadNumber") ["what", "number"]) (k_FIELDS : mg "FIELDS" = some (.ref (gm.a "FIELDS")) ∧ ∀ H, SqT K H (gm.a "FIELDS") (([0, 2, 3, 5, 7] : List Int).map V.int)) (h_is_whole : Ok_is_whole P w K mg base T gm) (gl : mg "need_field" = some (.ref f)) : Ok_need_field P w K mg base T gm := by
  obtain ⟨f_is_whole, fd_is_whole, O_is_whole, F_is_whole, G_is_whole⟩ := h_is_whole
  have S := sc_need_field
  refine ⟨f, fd, fn_of Fd S (fun ds c R RX h => by have := h.1; simp [this]) (fun cdv A outer s H E hr hG M RX hH hp ht ni hE => ?_), Fd, gl⟩
  exact ⟨_, s_one (s_if (t_w (w_or (t_not (t_val (e_call (RX := RX) O_is_whole (by decide) G_is_whole F_is_whole.kp (F_is_whole.bindsN fun _ _ _ _ _ _ us hl => match us, hl with | [_], _ => rfl) hE ni (a_cons (e_var 0 (fun _ => pv 0)) a_nil) (fun _ => rfl)))) (w_or1 (tc (c_notinK k_FIELDS.2) (e_var 0 (fun _ => pv 0)) (e_cls k_FIELDS.1 (fun _ => rfl)) (by rfl))))) (s_one (s_raise T_BadNumber (by decide) (a_cons (e_str) (a_cons (e_var 0 (fun _ => pv 0)) a_nil)) hE ni (fun _ => body_takes) (fun _ => rfl))) (s_nil)), fun ds c R h => h.2⟩
theorem sc_is_row : FnScope ["field", "value", "long", "item"] ["field", "value", "long"] (defScope (top 29)) := ⟨rfl, rfl, rfl, by decide +kernel, rfl, by decide +kernel, by decide +kernel⟩
def Ok_is_row (P : Program) (w : World) (K : PySem.W.Frag) (mg : Str → Option Value) (base : Heap) (T : List (Addr × Str)) (gm : Gm) : Prop := ∃ f fd, Gd.FnG P w K mg base (L2.CX P w) 4 f fd ["field", "value", "long"] (spF false [] (Ψ_is_row gm)) ∧ FnP K "is_row" (top 29) f fd ∧ mg "is_row" = some (.ref f)
theorem ok_is_row (B : Bs mg) (Sy : Sys K) (Fd : FnP K "is_row" (top 29) f fd) (h_is_item : Ok_is_item P w K mg base T gm) (h_is_tuple_of : Ok_is_tuple_of P w K mg base T gm) (gl : mg "is_row" = some (.ref f)) : Ok_is_row P w K mg base T gm := by
  obtain ⟨f_is_item, fd_is_item, O_is_item, F_is_item, G_is_item⟩ := h_is_item
  obtain ⟨f_is_tuple_of, fd_is_tuple_of, O_is_tuple_of, F_is_tuple_of, G_is_tuple_of⟩ := h_is_tuple_of
  have S := sc_is_row
  refine ⟨f, fd, fn_of Fd S (fun ds c R RX h => by have := h.1; simp [this]) (fun cdv A outer s H E hr hG M RX hH hp ht ni hE => ?_), Fd, gl⟩
  exact ⟨_, s_one (s_ret ((e_and (e_call (RX := RX) O_is_tuple_of (by decide) G_is_tuple_of F_is_tuple_of.kp (F_is_tuple_of.bindsN fun _ _ _ _ _ _ us hl => match us, hl with | [_, _], _ => rfl) hE ni (a_cons (e_var 1 (fun _ => pv 1)) (a_cons (e_var 2 (fun _ => pv 2)) a_nil)) (fun _ => rfl)) (e_one (e_all B.all (a_cons (e_fz (l_lc (own := [("item", 3)]) (fun _ => blkOk_by (own := [("item", 3)]) (N := ["field", "value", "long", "item"]) (sc := defScope (top 29)) (by decide +kernel)) (fun _ => S.nd) (id_seq2 (e_var 1 (fun _ => pv 1))) (g_name 3 (fun _ => pg_name (i := 3) S.nd rfl (by first | exact .inl rfl | exact .inr rfl))) ts_nil (e_call (RX := (fun _ _ => False)) O_is_item (by decide) G_is_item F_is_item.kp (F_is_item.bindsN fun _ _ _ _ _ _ us hl => match us, hl with | [_, _], _ => rfl) (fun _ _ _ _ _ _ z => z.elim) ni (a_cons (e_var 0 (fun _ => pv 0)) (a_cons (e_var 3 (fun _ => pv 3)) a_nil)) (fun _ => rfl)))) a_nil) (fun _ => rfl)))))), fun ds c R h => h.2⟩
theorem sc_told_row : FnScope ["field", "row", "item"] ["field", "row"] (defScope (top 30)) := ⟨rfl, rfl, rfl, by decide +kernel, rfl, by decide +kernel, by decide +kernel⟩
def Ok_told_row (P : Program) (w : World) (K : PySem.W.Frag) (mg : Str → Option Value) (base : Heap) (T : List (Addr × Str)) (gm : Gm) : Prop := ∃ f fd, Gd.FnG P w K mg base (L2.CX P w) 5 f fd ["field", "row"] (spF false [] (Ψ_told_row gm)) ∧ FnP K "told_row" (top 30) f fd ∧ mg "told_row" = some (.ref f)
theorem ok_told_row (B : Bs mg) (Sy : Sys K) (Fd : FnP K "told_row" (top 30) f fd) (h_item_of : Ok_item_of P w K mg base T gm) (gl : mg "told_row" = some (.ref f)) : Ok_told_row P w K mg base T gm := by
  obtain ⟨f_item_of, fd_item_of, O_item_of, F_item_of, G_item_of⟩ := h_item_of
  have S := sc_told_row
  refine ⟨f, fd, fn_of Fd S (fun ds c R RX h => by have := h.1; simp [this]) (fun cdv A outer s H E hr hG M RX hH hp ht ni hE => ?_), Fd, gl⟩
  exact ⟨_, s_one (s_ret (e_tuple B.tuple (a_cons (e_fz (l_lc (own := [("item", 2)]) (fun _ => blkOk_by (own := [("item", 2)]) (N := ["field", "row", "item"]) (sc := defScope (top 30)) (by decide +kernel)) (fun _ => S.nd) (id_seq2 (e_var 1 (fun _ => pv 1))) (g_name 2 (fun _ => pg_name (i := 2) S.nd rfl (by first | exact .inl rfl | exact .inr rfl))) ts_nil (e_call (RX := (fun _ _ => False)) O_item_of (by decide) G_item_of F_item_of.kp (F_item_of.bindsN fun _ _ _ _ _ _ us hl => match us, hl with | [_, _], _ => rfl) (fun _ _ _ _ _ _ z => z.elim) ni (a_cons (e_var 0 (fun _ => pv 0)) (a_cons (e_var 2 (fun _ => pv 2)) a_nil)) (fun _ => rfl)))) a_nil) (fun _ => rfl))), fun ds c R h => h.2⟩
theorem sc_loose_row : FnScope ["field", "value", "item"] ["field", "value"] (defScope (top 31)) := ⟨rfl, rfl, rfl, by decide +kernel, rfl, by decide +kernel, by decide +kernel⟩
def Ok_loose_row (P : Program) (w : World) (K : PySem.W.Frag) (mg : Str → Option Value) (base : Heap) (T : List (Addr × Str)) (gm : Gm) : Prop := ∃ f fd, Gd.FnG P w K mg base (L2.CX P w) 13 f fd ["field", "value"] (spF false [] (Ψ_loose_row gm)) ∧ FnP K "loose_row" (top 31) f fd ∧ mg "loose_row" = some (.ref f)
theorem ok_loose_row (B : Bs mg) (Sy : Sys K) (Fd : FnP K "loose_row" (top 31) f fd) (h_in_tuples : Ok_in_tuples P w K mg base T gm) (gl : mg "loose_row" = some (.ref f)) : Ok_loose_row P w K mg base T gm := by
  obtain ⟨f_in_tuples, fd_in_tuples, O_in_tuples, F_in_tuples, G_in_tuples⟩ := h_in_tuples
  have S := sc_loose_row
  refine ⟨f, fd, fn_of Fd S (fun ds c R RX h => by have := h.1; simp [this]) (fun cdv A outer s H E hr hG M RX hH hp ht ni hE => ?_), Fd, gl⟩
  exact ⟨_, s_cons (s_if (t_not (t_val (e_isT B.isinstance (a_cons (e_var 1 (fun _ => pv 1)) (a_cons (e_tup (a_cons (e_ty B.tuple boot_tup (fun _ => rfl)) (a_cons (e_ty B.list boot_lst (fun _ => rfl)) a_nil))) a_nil)) (fun _ => rfl)))) (s_one (s_ret (e_var 1 (fun _ => pv 1)))) (s_nil)) (s_one (s_ret (e_tuple B.tuple (a_cons (e_fz (l_lc (own := [("item", 2)]) (fun _ => blkOk_by (own := [("item", 2)]) (N := ["field", "value", "item"]) (sc := defScope (top 31)) (by decide +kernel)) (fun _ => S.nd) (id_seq2 (e_var 1 (fun _ => pv 1))) (g_name 2 (fun _ => pg_name (i := 2) S.nd rfl (by first | exact .inl rfl | exact .inr rfl))) ts_nil (e_call (RX := (fun _ _ => False)) O_in_tuples (by decide) G_in_tuples F_in_tuples.kp (F_in_tuples.bindsN fun _ _ _ _ _ _ us hl => match us, hl with | [_], _ => rfl) (fun _ _ _ _ _ _ z => z.elim) ni (a_cons (e_var 2 (fun _ => pv 2)) a_nil) (fun _ => rfl)))) a_nil) (fun _ => rfl)))), fun ds c R h => h.2⟩
theorem sc_is_table : FnScope ["field", "value", "wide", "row"] ["field", "value", "wide"] (defScope (top 32)) := ⟨rfl, rfl, rfl, by decide +kernel, rfl, by decide +kernel, by decide +kernel⟩
def Ok_is_table (P : Program) (w : World) (K : PySem.W.Frag) (mg : Str → Option Value) (base : Heap) (T : List (Addr × Str)) (gm : Gm) : Prop := ∃ f fd, Gd.FnG P w K mg base (L2.CX P w) 5 f fd ["field", "value", "wide"] (spF false [] (Ψ_is_table gm)) ∧ FnP K "is_table" (top 32) f fd ∧ mg "is_table" = some (.ref f)
theorem ok_is_table (B : Bs mg) (Sy : Sys K) (Fd : FnP K "is_table" (top 32) f fd) (h_is_row : Ok_is_row P w K mg base T gm) (gl : mg "is_table" = some (.ref f)) : Ok_is_table P w K mg base T gm := by
  obtain ⟨f_is_row, fd_is_row, O_is_row, F_is_row, G_is_row⟩ := h_is_row
  have S := sc_is_table
  refine ⟨f, fd, fn_of Fd S (fun ds c R RX h => by have := h.1; simp [this]) (fun cdv A outer s H E hr hG M RX hH hp ht ni hE => ?_), Fd, gl⟩
  exact ⟨_, s_one (s_ret ((e_and (e_isi B.isinstance (a_cons (e_var 1 (fun _ => pv 1)) (a_cons (e_ty B.tuple boot_tup (fun _ => rfl)) a_nil)) (fun _ => rfl)) (e_one (e_all B.all (a_cons (e_fz (l_lc (own := [("row", 3)]) (fun _ => blkOk_by (own := [("row", 3)]) (N := ["field", "value", "wide", "row"]) (sc := defScope (top 32)) (by decide +kernel)) (fun _ => S.nd) (id_seq2 (e_var 1 (fun _ => pv 1))) (g_name 3 (fun _ => pg_name (i := 3) S.nd rfl (by first | exact .inl rfl | exact .inr rfl))) ts_nil (e_call (RX := (fun _ _ => False)) O_is_row (by decide) G_is_row F_is_row.kp (F_is_row.bindsN fun _ _ _ _ _ _ us hl => match us, hl with | [_, _, _], _ => rfl) (fun _ _ _ _ _ _ z => z.elim) ni (a_cons (e_var 0 (fun _ => pv 0)) (a_cons (e_var 3 (fun _ => pv 3)) (a_cons (e_var 2 (fun _ => pv 2)) a_nil))) (fun _ => rfl)))) a_nil) (fun _ => rfl)))))), fun ds c R h => h.2⟩
theorem sc_are_widths : FnScope ["value", "item"] ["value"] (defScope (top 40)) := ⟨rfl, rfl, rfl, by decide +kernel, rfl, by decide +kernel, by decide +kernel⟩
def Ok_are_widths (P : Program) (w : World) (K : PySem.W.Frag) (mg : Str → Option Value) (base : Heap) (T : List (Addr × Str)) (gm : Gm) : Prop := ∃ f fd, Gd.FnG P w K mg base (L2.CX P w) 2 f fd ["value"] (spF false [] (Ψ_are_widths gm)) ∧ FnP K "are_widths" (top 40) f fd ∧ mg "are_widths" = some (.ref f)
theorem ok_are_widths (B : Bs mg) (Sy : Sys K) (Fd : FnP K "are_widths" (top 40) f fd) (h_is_whole : Ok_is_whole P w K mg base T gm) (c_MOST_PLACES_rooms : ∃ t, mg "MOST_PLACES_rooms" = some (.int 8 t)) (c_MOST_ITEMS : ∃ t, mg "MOST_ITEMS" = some (.int 16 t)) (c_MOST_WIDTH : ∃ t, mg "MOST_WIDTH" = some (.int 4 t)) (gl : mg "are_widths" = some (.ref f)) : Ok_are_widths P w K mg base T gm := by
  obtain ⟨f_is_whole, fd_is_whole, O_is_whole, F_is_whole, G_is_whole⟩ := h_is_whole
  have S := sc_are_widths
  refine ⟨f, fd, fn_of Fd S (fun ds c R RX h => by have := h.1; simp [this]) (fun cdv A outer s H E hr hG M RX hH hp ht ni hE => ?_), Fd, gl⟩
  exact ⟨_, s_cons (s_if (t_w (w_or (t_not (t_val (e_isi B.isinstance (a_cons (e_var 0 (fun _ => pv 0)) (a_cons (e_ty B.tuple boot_tup (fun _ => rfl)) a_nil)) (fun _ => rfl)))) (w_or1 (t_not (t_chain (fun _ => op_le) (fun _ => op_le) (e_int) (e_len B.len (a_cons (e_var 0 (fun _ => pv 0)) a_nil) (fun _ => rfl)) (e_gint c_MOST_PLACES_rooms (fun _ => rfl))))))) (s_one (s_ret (e_bl))) (s_nil)) (s_one (s_ret ((e_and (e_all B.all (a_cons (e_fz (l_lc (own := [("item", 1)]) (fun _ => blkOk_by (own := [("item", 1)]) (N := ["value", "item"]) (sc := defScope (top 40)) (by decide +kernel)) (fun _ => S.nd) (id_seq2 (e_var 0 (fun _ => pv 0))) (g_name 1 (fun _ => pg_name (i := 1) S.nd rfl (by first | exact .inl rfl | exact .inr rfl))) ts_nil ((e_and (e_call (RX := (fun _ _ => False)) O_is_whole (by decide) G_is_whole F_is_whole.kp (F_is_whole.bindsN fun _ _ _ _ _ _ us hl => match us, hl with | [_], _ => rfl) (fun _ _ _ _ _ _ z => z.elim) ni (a_cons (e_var 1 (fun _ => pv 1)) a_nil) (fun _ => rfl)) (e_one (e_chain (fun _ => op_le) (fun _ => op_le) (e_int) (e_var 1 (fun _ => pv 1)) (e_gint c_MOST_WIDTH (fun _ => rfl)))))))) a_nil) (fun _ => rfl)) (e_one (ec c_le (e_sum B.sum (a_cons (e_var 0 (fun _ => pv 0)) a_nil) (fun _ => rfl)) (e_gint c_MOST_ITEMS (fun _ => rfl)) (nomark _))))))), fun ds c R h => h.2⟩
theorem sc_loose_table : FnScope ["field", "value", "row"] ["field", "value"] (defScope (top 41)) := ⟨rfl, rfl, rfl, by decide +kernel, rfl, by decide +kernel, by decide +kernel⟩
def Ok_loose_table (P : Program) (w : World) (K : PySem.W.Frag) (mg : Str → Option Value) (base : Heap) (T : List (Addr × Str)) (gm : Gm) : Prop := ∃ f fd, Gd.FnG P w K mg base (L2.CX P w) 14 f fd ["field", "value"] (spF false [] (Ψ_loose_table gm)) ∧ FnP K "loose_table" (top 41) f fd ∧ mg "loose_table" = some (.ref f)
theorem ok_loose_table (B : Bs mg) (Sy : Sys K) (Fd : FnP K "loose_table" (top 41) f fd) (h_loose_row : Ok_loose_row P w K mg base T gm) (gl : mg "loose_table" = some (.ref f)) : Ok_loose_table P w K mg base T gm := by
  obtain ⟨f_loose_row, fd_loose_row, O_loose_row, F_loose_row, G_loose_row⟩ := h_loose_row
  have S := sc_loose_table
  refine ⟨f, fd, fn_of Fd S (fun ds c R RX h => by have := h.1; simp [this]) (fun cdv A outer s H E hr hG M RX hH hp ht ni hE => ?_), Fd, gl⟩
  exact ⟨_, s_cons (s_if (t_not (t_val (e_isT B.isinstance (a_cons (e_var 1 (fun _ => pv 1)) (a_cons (e_tup (a_cons (e_ty B.tuple boot_tup (fun _ => rfl)) (a_cons (e_ty B.list boot_lst (fun _ => rfl)) a_nil))) a_nil)) (fun _ => rfl)))) (s_one (s_ret (e_var 1 (fun _ => pv 1)))) (s_nil)) (s_one (s_ret (e_tuple B.tuple (a_cons (e_fz (l_lc (own := [("row", 2)]) (fun _ => blkOk_by (own := [("row", 2)]) (N := ["field", "value", "row"]) (sc := defScope (top 41)) (by decide +kernel)) (fun _ => S.nd) (id_seq2 (e_var 1 (fun _ => pv 1))) (g_name 2 (fun _ => pg_name (i := 2) S.nd rfl (by first | exact .inl rfl | exact .inr rfl))) ts_nil (e_call (RX := (fun _ _ => False)) O_loose_row (by decide) G_loose_row F_loose_row.kp (F_loose_row.bindsN fun _ _ _ _ _ _ us hl => match us, hl with | [_, _], _ => rfl) (fun _ _ _ _ _ _ z => z.elim) ni (a_cons (e_var 0 (fun _ => pv 0)) (a_cons (e_var 2 (fun _ => pv 2)) a_nil)) (fun _ => rfl)))) a_nil) (fun _ => rfl)))), fun ds c R h => h.2⟩
theorem sc_tie_from : FnScope ["field", "widths", "tie", "i", "j", "first", "second", "place", "row"] ["field", "widths", "tie"] (defScope (top 42)) := ⟨rfl, rfl, rfl, by decide +kernel, rfl, by decide +kernel, by decide +kernel⟩
def Ok_tie_from (P : Program) (w : World) (K : PySem.W.Frag) (mg : Str → Option Value) (base : Heap) (T : List (Addr × Str)) (gm : Gm) : Prop := ∃ f fd, Gd.FnG P w K mg base (L2.CX P w) 15 f fd ["field", "widths", "tie"] (spF false [] (Ψ_tie_from gm)) ∧ FnP K "tie_from" (top 42) f fd ∧ mg "tie_from" = some (.ref f)
theorem ok_tie_from (B : Bs mg) (Sy : Sys K) (Fd : FnP K "tie_from" (top 42) f fd) (h_loose_table : Ok_loose_table P w K mg base T gm) (h_is_whole : Ok_is_whole P w K mg base T gm) (h_is_table : Ok_is_table P w K mg base T gm) (h_told_row : Ok_told_row P w K mg base T gm) (c_MOST_WIDTH : ∃ t, mg "MOST_WIDTH" = some (.int 4 t)) (gl : mg "tie_from" = some (.ref f)) : Ok_tie_from P w K mg base T gm := by
  obtain ⟨f_loose_table, fd_loose_table, O_loose_table, F_loose_table, G_loose_table⟩ := h_loose_table
  obtain ⟨f_is_whole, fd_is_whole, O_is_whole, F_is_whole, G_is_whole⟩ := h_is_whole
  obtain ⟨f_is_table, fd_is_table, O_is_table, F_is_table, G_is_table⟩ := h_is_table
  obtain ⟨f_told_row, fd_told_row, O_told_row, F_told_row, G_told_row⟩ := h_told_row
  have S := sc_tie_from
  refine ⟨f, fd, fn_of Fd S (fun ds c R RX h => by have := h.1; simp [this]) (fun cdv A outer s H E hr hG M RX hH hp ht ni hE => ?_), Fd, gl⟩
  exact ⟨_, s_cons (s_if (t_w (w_or (t_not (t_val (e_isT B.isinstance (a_cons (e_var 2 (fun _ => pv 2)) (a_cons (e_tup (a_cons (e_ty B.tuple boot_tup (fun _ => rfl)) (a_cons (e_ty B.list boot_lst (fun _ => rfl)) a_nil))) a_nil)) (fun _ => rfl)))) (w_or1 (tc c_ne (e_len B.len (a_cons (e_var 2 (fun _ => pv 2)) a_nil) (fun _ => rfl)) (e_int) (nomark _))))) (s_one (s_ret (e_non))) (s_nil)) (s_cons (s_asg (e_tup (a_cons (e_ix (e_var 2 (fun _ => pv 2)) (e_int)) (a_cons (e_ix (e_var 2 (fun _ => pv 2)) (e_int)) (a_cons (e_call (RX := RX) O_loose_table (by decide) G_loose_table F_loose_table.kp (F_loose_table.bindsN fun _ _ _ _ _ _ us hl => match us, hl with | [_, _], _ => rfl) hE ni (a_cons (e_var 0 (fun _ => pv 0)) (a_cons (e_ix (e_var 2 (fun _ => pv 2)) (e_int)) a_nil)) (fun _ => rfl)) (a_cons (e_call (RX := RX) O_loose_table (by decide) G_loose_table F_loose_table.kp (F_loose_table.bindsN fun _ _ _ _ _ _ us hl => match us, hl with | [_, _], _ => rfl) hE ni (a_cons (e_var 0 (fun _ => pv 0)) (a_cons (e_ix (e_var 2 (fun _ => pv 2)) (e_int)) a_nil)) (fun _ => rfl)) a_nil))))) (g_tup 4 (gs_cons (g_name 3 (fun _ => pg_name (i := 3) S.nd rfl (by first | exact .inl rfl | exact .inr rfl))) (gs_cons (g_name 4 (fun _ => pg_name (i := 4) S.nd rfl (by first | exact .inl rfl | exact .inr rfl))) (gs_cons (g_name 5 (fun _ => pg_name (i := 5) S.nd rfl (by first | exact .inl rfl | exact .inr rfl))) (gs_cons (g_name 6 (fun _ => pg_name (i := 6) S.nd rfl (by first | exact .inl rfl | exact .inr rfl))) gs_nil)))))) (s_cons (s_if (t_w (w_or (t_not (t_val (e_all B.all (a_cons (e_fz (l_lc (own := [("place", 7)]) (fun _ => blkOk_by (own := [("place", 7)]) (N := ["field", "widths", "tie", "i", "j", "first", "second", "place", "row"]) (sc := defScope (top 42)) (by decide +kernel)) (fun _ => S.nd) (id_seq2 (e_tup (a_cons (e_var 3 (fun _ => pv 3)) (a_cons (e_var 4 (fun _ => pv 4)) a_nil)))) (g_name 7 (fun _ => pg_name (i := 7) S.nd rfl (by first | exact .inl rfl | exact .inr rfl))) ts_nil ((e_and (e_call (RX := (fun _ _ => False)) O_is_whole (by decide) G_is_whole F_is_whole.kp (F_is_whole.bindsN fun _ _ _ _ _ _ us hl => match us, hl with | [_], _ => rfl) (fun _ _ _ _ _ _ z => z.elim) ni (a_cons (e_var 7 (fun _ => pv 7)) a_nil) (fun _ => rfl)) (e_one (e_chain (fun _ => op_le) (fun _ => op_lt) (e_int) (e_var 7 (fun _ => pv 7)) (e_len B.len (a_cons (e_var 1 (fun _ => pv 1)) a_nil) (fun _ => rfl)))))))) a_nil) (fun _ => rfl)))) (w_or1 (tc c_eq (e_var 3 (fun _ => pv 3)) (e_var 4 (fun _ => pv 4)) (nomark _))))) (s_one (s_ret (e_non))) (s_nil)) (s_cons (s_if (t_w (w_or (t_not (t_val (e_call (RX := RX) O_is_table (by decide) G_is_table F_is_table.kp (F_is_table.bindsN fun _ _ _ _ _ _ us hl => match us, hl with | [_, _, _], _ => rfl) hE ni (a_cons (e_var 0 (fun _ => pv 0)) (a_cons (e_var 5 (fun _ => pv 5)) (a_cons (e_ix (e_var 1 (fun _ => pv 1)) (e_var 3 (fun _ => pv 3))) a_nil))) (fun _ => rfl)))) (w_or1 (t_not (t_val (e_call (RX := RX) O_is_table (by decide) G_is_table F_is_table.kp (F_is_table.bindsN fun _ _ _ _ _ _ us hl => match us, hl with | [_, _, _], _ => rfl) hE ni (a_cons (e_var 0 (fun _ => pv 0)) (a_cons (e_var 6 (fun _ => pv 6)) (a_cons (e_ix (e_var 1 (fun _ => pv 1)) (e_var 4 (fun _ => pv 4))) a_nil))) (fun _ => rfl))))))) (s_one (s_ret (e_non))) (s_nil)) (s_cons (s_if (t_w (w_or (tc c_ne (e_len B.len (a_cons (e_var 5 (fun _ => pv 5)) a_nil) (fun _ => rfl)) (e_len B.len (a_cons (e_var 6 (fun _ => pv 6)) a_nil) (fun _ => rfl)) (nomark _)) (w_or1 (tc c_gt (e_len B.len (a_cons (e_var 5 (fun _ => pv 5)) a_nil) (fun _ => rfl)) (e_gint c_MOST_WIDTH (fun _ => rfl)) (nomark _))))) (s_one (s_ret (e_non))) (s_nil)) (s_one (s_ret (e_tup (a_cons (e_var 3 (fun _ => pv 3)) (a_cons (e_var 4 (fun _ => pv 4)) (a_cons (e_tuple B.tuple (a_cons (e_fz (l_lc (own := [("row", 8)]) (fun _ => blkOk_by (own := [("row", 8)]) (N := ["field", "widths", "tie", "i", "j", "first", "second", "place", "row"]) (sc := defScope (top 42)) (by decide +kernel)) (fun _ => S.nd) (id_seq2 (e_var 5 (fun _ => pv 5))) (g_name 8 (fun _ => pg_name (i := 8) S.nd rfl (by first | exact .inl rfl | exact .inr rfl))) ts_nil (e_call (RX := (fun _ _ => False)) O_told_row (by decide) G_told_row F_told_row.kp (F_told_row.bindsN fun _ _ _ _ _ _ us hl => match us, hl with | [_, _], _ => rfl) (fun _ _ _ _ _ _ z => z.elim) ni (a_cons (e_var 0 (fun _ => pv 0)) (a_cons (e_var 8 (fun _ => pv 8)) a_nil)) (fun _ => rfl)))) a_nil) (fun _ => rfl)) (a_cons (e_tuple B.tuple (a_cons (e_fz (l_lc (own := [("row", 8)]) (fun _ => blkOk_by (own := [("row", 8)]) (N := ["field", "widths", "tie", "i", "j", "first", "second", "place", "row"]) (sc := defScope (top 42)) (by decide +kernel)) (fun _ => S.nd) (id_seq2 (e_var 6 (fun _ => pv 6))) (g_name 8 (fun _ => pg_name (i := 8) S.nd rfl (by first | exact .inl rfl | exact .inr rfl))) ts_nil (e_call (RX := (fun _ _ => False)) O_told_row (by decide) G_told_row F_told_row.kp (F_told_row.bindsN fun _ _ _ _ _ _ us hl => match us, hl with | [_, _], _ => rfl) (fun _ _ _ _ _ _ z => z.elim) ni (a_cons (e_var 0 (fun _ => pv 0)) (a_cons (e_var 8 (fun _ => pv 8)) a_nil)) (fun _ => rfl)))) a_nil) (fun _ => rfl)) a_nil))))))))))), fun ds c R h => h.2⟩
theorem sc_Rooms : FnScope ["self", "field", "widths", "ties", "some", "made", "tie"] ["self", "field", "widths", "ties"] (defScope (ini 38)) := ⟨rfl, rfl, rfl, by decide +kernel, rfl, by decide +kernel, by decide +kernel⟩
def Ok_Rooms (P : Program) (w : World) (K : PySem.W.Frag) (mg : Str → Option Value) (base : Heap) (T : List (Addr × Str)) (gm : Gm) : Prop := ∃ f fd, Gd.FnG P w K mg base (L2.CX P w) 16 f fd ["self", "field", "widths", "ties"] (spI (gm.a "Rooms") ["field", "widths", "ties"] (Ψ_Rooms gm)) ∧ FunD K "__init__" "Rooms.__init__" (defArgs (ini 38)) (defBody (ini 38)) (defScope (ini 38)) [] [] f fd ∧ Mk K (gm.a "Rooms") f ∧ mg "Rooms" = some (.ref (gm.a "Rooms"))
theorem ok_Rooms (B : Bs mg) (Sy : Sys K) (Fd : FunD K "__init__" "Rooms.__init__" (defArgs (ini 38)) (defBody (ini 38)) (defScope (ini 38)) [] [] f fd) (Mk0 : Mk K (gm.a "Rooms") f) (T_BadWeb : Err P w K mg base "BadWeb" (gm.a "BadWeb") ["what", "value"]) (X_Rooms : ObjK K mg "Rooms" (gm.a "Rooms") ["field", "widths", "ties"]) (h_need_field : Ok_need_field P w K mg base T gm) (h_in_tuples : Ok_in_tuples P w K mg base T gm) (h_are_widths : Ok_are_widths P w K mg base T gm) (h_tie_from : Ok_tie_from P w K mg base T gm) (c_MOST_TIES_rooms : ∃ t, mg "MOST_TIES_rooms" = some (.int 12 t)) : Ok_Rooms P w K mg base T gm := by
  obtain ⟨f_need_field, fd_need_field, O_need_field, F_need_field, G_need_field⟩ := h_need_field
  obtain ⟨f_in_tuples, fd_in_tuples, O_in_tuples, F_in_tuples, G_in_tuples⟩ := h_in_tuples
  obtain ⟨f_are_widths, fd_are_widths, O_are_widths, F_are_widths, G_are_widths⟩ := h_are_widths
  obtain ⟨f_tie_from, fd_tie_from, O_tie_from, F_tie_from, G_tie_from⟩ := h_tie_from
  have S := sc_Rooms
  refine ⟨f, fd, init_of (pre := (defBody (ini 38)).take 6) (po := [⟨"field", (defBody (ini 38)).getD 6 (.Pass ⟨0, 0, 0, 0⟩), dVar 1⟩, ⟨"widths", (defBody (ini 38)).getD 7 (.Pass ⟨0, 0, 0, 0⟩), dVar 4⟩, ⟨"ties", (defBody (ini 38)).getD 8 (.Pass ⟨0, 0, 0, 0⟩), dCB cTup (aCons (dVar 5) aNil)⟩]) Fd S (by simp) rfl X_Rooms.cl (fun p hp => X_Rooms.na p.f ?_) (by decide) (by decide) (fun ds c R RX h => by have := h.1; simp [this]) (fun cdv A outer s H E hr hG M RX hp ht ni hE => ?_) (fun cdv A outer s H E hr hG p hp M ni h1 h2 => ?_), Fd, Mk0, X_Rooms.gl⟩
  · simp at hp
    rcases hp with rfl | rfl | rfl <;> simp
  · exact ⟨_, (st_cons (s_expr (e_call (RX := RX) O_need_field (by decide) G_need_field F_need_field.kp (F_need_field.bindsN fun _ _ _ _ _ _ us hl => match us, hl with | [_], _ => rfl) hE ni (a_cons (e_var 1 (fun _ => pv 1)) a_nil) (fun _ => rfl))) (st_cons (s_setR (fun t h j => ps_set (i := 4) S.nd rfl (by first | exact .inl rfl | exact .inr rfl) (h j)) (e_call (RX := RX) O_in_tuples (by decide) G_in_tuples F_in_tuples.kp (F_in_tuples.bindsN fun _ _ _ _ _ _ us hl => match us, hl with | [_], _ => rfl) hE ni (a_cons (e_var 2 (fun _ => pv 2)) a_nil) (fun _ => rfl))) (st_cons (s_if (t_not (t_val (e_call (RX := RX) O_are_widths (by decide) G_are_widths F_are_widths.kp (F_are_widths.bindsN fun _ _ _ _ _ _ us hl => match us, hl with | [_], _ => rfl) hE ni (a_cons (e_var 4 (fun _ => pv 4)) a_nil) (fun _ => rfl)))) (s_one (s_raise T_BadWeb (by decide) (a_cons (e_str) (a_cons (e_var 2 (fun _ => pv 2)) a_nil)) hE ni (fun _ => body_takes) (fun _ => rfl))) (s_nil)) (st_cons (s_if (t_w (w_or (t_not (t_val (e_isT B.isinstance (a_cons (e_var 3 (fun _ => pv 3)) (a_cons (e_tup (a_cons (e_ty B.tuple boot_tup (fun _ => rfl)) (a_cons (e_ty B.list boot_lst (fun _ => rfl)) a_nil))) a_nil)) (fun _ => rfl)))) (w_or1 (tc c_gt (e_len B.len (a_cons (e_var 3 (fun _ => pv 3)) a_nil) (fun _ => rfl)) (e_gint c_MOST_TIES_rooms (fun _ => rfl)) (nomark _))))) (s_one (s_raise T_BadWeb (by decide) (a_cons (e_str) (a_cons (e_var 3 (fun _ => pv 3)) a_nil)) hE ni (fun _ => body_takes) (fun _ => rfl))) (s_nil)) (st_cons (s_setLc 5 (own := [("tie", 6)]) (fun _ => rfl) (fun _ => rfl) (fun _ => rfl) (fun _ => blkOk_by (own := [("tie", 6)]) (N := ["self", "field", "widths", "ties", "some", "made", "tie"]) (sc := defScope (ini 38)) (by decide +kernel)) (fun _ => S.nd) (id_seq2 (e_var 3 (fun _ => pv 3))) (g_name 6 (fun _ => pg_name (i := 6) S.nd rfl (by first | exact .inl rfl | exact .inr rfl))) ts_nil (e_call (RX := (fun _ _ => False)) O_tie_from (by decide) G_tie_from F_tie_from.kp (F_tie_from.bindsN fun _ _ _ _ _ _ us hl => match us, hl with | [_, _, _], _ => rfl) (fun _ _ _ _ _ _ z => z.elim) ni (a_cons (e_var 1 (fun _ => pv 1)) (a_cons (e_var 4 (fun _ => pv 4)) (a_cons (e_var 6 (fun _ => pv 6)) a_nil))) (fun _ => rfl))) (st_cons (s_if (t_val (e_any B.any (a_cons (e_fz (l_lc (own := [("tie", 6)]) (fun _ => blkOk_by (own := [("tie", 6)]) (N := ["self", "field", "widths", "ties", "some", "made", "tie"]) (sc := defScope (ini 38)) (by decide +kernel)) (fun _ => S.nd) (id_seq2 (e_var 5 (fun _ => pv 5))) (g_name 6 (fun _ => pg_name (i := 6) S.nd rfl (by first | exact .inl rfl | exact .inr rfl))) ts_nil (ec is_non (e_var 6 (fun _ => pv 6)) (e_non) (nomark _)))) a_nil) (fun _ => rfl))) (s_one (s_raise T_BadWeb (by decide) (a_cons (e_str) (a_cons (e_var 3 (fun _ => pv 3)) a_nil)) hE ni (fun _ => body_takes) (fun _ => rfl))) (s_nil)) st_nil)))))), fun o ds R h => h.2 o⟩
  · simp only [List.mem_cons, List.not_mem_nil, or_false] at hp
    rcases hp with rfl | rfl | rfl
    · obtain ⟨t, pt, snd⟩ : ED M (bodyF P w K mg base 15 ["self", "field", "widths", "ties", "some", "made", "tie"] "Rooms.__init__" (defScope (ini 38)) f cdv A outer s H E hr hG) _ (dVar 1) := e_var 1 (fun _ => pv 1)
      exact ⟨t, ps_fld (pv 0) (pt ()) rfl, snd⟩
    · obtain ⟨t, pt, snd⟩ : ED M (bodyF P w K mg base 15 ["self", "field", "widths", "ties", "some", "made", "tie"] "Rooms.__init__" (defScope (ini 38)) f cdv A outer s H E hr hG) _ (dVar 4) := e_var 4 (fun _ => pv 4)
      exact ⟨t, ps_fld (pv 0) (pt ()) rfl, snd⟩
    · obtain ⟨t, pt, snd⟩ : ED M (bodyF P w K mg base 15 ["self", "field", "widths", "ties", "some", "made", "tie"] "Rooms.__init__" (defScope (ini 38)) f cdv A outer s H E hr hG) _ (dCB cTup (aCons (dVar 5) aNil)) := e_tuple B.tuple (a_cons (e_var 5 (fun _ => pv 5)) a_nil) (fun _ => rfl)
      exact ⟨t, ps_fld (pv 0) (pt ()) rfl, snd⟩
theorem sc_rooms_key : FnScope ["rooms"] ["rooms"] (defScope (top 39)) := ⟨rfl, rfl, rfl, by decide +kernel, rfl, by decide +kernel, by decide +kernel⟩
def Ok_rooms_key (P : Program) (w : World) (K : PySem.W.Frag) (mg : Str → Option Value) (base : Heap) (T : List (Addr × Str)) (gm : Gm) : Prop := ∃ f fd, Gd.FnG P w K mg base (L2.CX P w) 1 f fd ["rooms"] (spF false [] (Ψ_rooms_key gm)) ∧ FnP K "rooms_key" (top 39) f fd ∧ mg "rooms_key" = some (.ref f)
theorem ok_rooms_key (B : Bs mg) (Sy : Sys K) (Fd : FnP K "rooms_key" (top 39) f fd) (X_Rooms : ObjK K mg "Rooms" (gm.a "Rooms") ["field", "widths", "ties"]) (gl : mg "rooms_key" = some (.ref f)) : Ok_rooms_key P w K mg base T gm := by
  have S := sc_rooms_key
  refine ⟨f, fd, fn_of Fd S (fun ds c R RX h => by have := h.1; simp [this]) (fun cdv A outer s H E hr hG M RX hH hp ht ni hE => ?_), Fd, gl⟩
  exact ⟨_, s_one (s_ret (e_tup (a_cons (e_fld X_Rooms.cl (X_Rooms.na "field" (by simp)) (e_var 0 (fun _ => pv 0))) (a_cons (e_fld X_Rooms.cl (X_Rooms.na "widths" (by simp)) (e_var 0 (fun _ => pv 0))) (a_cons (e_fld X_Rooms.cl (X_Rooms.na "ties" (by simp)) (e_var 0 (fun _ => pv 0))) a_nil))))), fun ds c R h => h.2⟩
theorem sc_need_rooms : FnScope ["rooms"] ["rooms"] (defScope (top 43)) := ⟨rfl, rfl, rfl, by decide +kernel, rfl, by decide +kernel, by decide +kernel⟩
def Ok_need_rooms (P : Program) (w : World) (K : PySem.W.Frag) (mg : Str → Option Value) (base : Heap) (T : List (Addr × Str)) (gm : Gm) : Prop := ∃ f fd, Gd.FnG P w K mg base (L2.CX P w) 3 f fd ["rooms"] (spF false [] (Ψ_need_rooms gm)) ∧ FnP K "need_rooms" (top 43) f fd ∧ mg "need_rooms" = some (.ref f)
theorem ok_need_rooms (B : Bs mg) (Sy : Sys K) (Fd : FnP K "need_rooms" (top 43) f fd) (T_Unlike : Err P w K mg base "Unlike" (gm.a "Unlike") ["what"]) (X_Rooms : ObjK K mg "Rooms" (gm.a "Rooms") ["field", "widths", "ties"]) (gl : mg "need_rooms" = some (.ref f)) : Ok_need_rooms P w K mg base T gm := by
  have S := sc_need_rooms
  refine ⟨f, fd, fn_of Fd S (fun ds c R RX h => by have := h.1; simp [this]) (fun cdv A outer s H E hr hG M RX hH hp ht ni hE => ?_), Fd, gl⟩
  exact ⟨_, s_one (s_if (t_not (t_val (e_isiC X_Rooms.ik B.isinstance (a_cons (e_var 0 (fun _ => pv 0)) (a_cons (e_cls X_Rooms.gl (fun _ => rfl)) a_nil)) (fun _ => rfl)))) (s_one (s_raise T_Unlike (by decide) (a_cons (e_str) a_nil) hE ni (fun _ => body_takes) (fun _ => rfl))) (s_nil)), fun ds c R h => h.2⟩
theorem sc_web_by : FnScope ["rooms", "tie"] ["rooms"] (defScope (top 45)) := ⟨rfl, rfl, rfl, by decide +kernel, rfl, by decide +kernel, by decide +kernel⟩
def Ok_web_by (P : Program) (w : World) (K : PySem.W.Frag) (mg : Str → Option Value) (base : Heap) (T : List (Addr × Str)) (gm : Gm) : Prop := ∃ f fd, Gd.FnG P w K mg base (L2.CX P w) 1 f fd ["rooms"] (spF false [] (Ψ_web_by gm)) ∧ FnP K "web_by" (top 45) f fd ∧ mg "web_by" = some (.ref f)
theorem ok_web_by (B : Bs mg) (Sy : Sys K) (Fd : FnP K "web_by" (top 45) f fd) (X_Rooms : ObjK K mg "Rooms" (gm.a "Rooms") ["field", "widths", "ties"]) (gl : mg "web_by" = some (.ref f)) : Ok_web_by P w K mg base T gm := by
  have S := sc_web_by
  refine ⟨f, fd, fn_of Fd S (fun ds c R RX h => by have := h.1; simp [this]) (fun cdv A outer s H E hr hG M RX hH hp ht ni hE => ?_), Fd, gl⟩
  exact ⟨_, s_one (s_ret (e_tup (a_cons (e_len B.len (a_cons (e_fld X_Rooms.cl (X_Rooms.na "widths" (by simp)) (e_var 0 (fun _ => pv 0))) a_nil) (fun _ => rfl)) (a_cons (e_tuple B.tuple (a_cons (e_fz (l_lc (own := [("tie", 1)]) (fun _ => blkOk_by (own := [("tie", 1)]) (N := ["rooms", "tie"]) (sc := defScope (top 45)) (by decide +kernel)) (fun _ => S.nd) (id_seq2 (e_fld X_Rooms.cl (X_Rooms.na "ties" (by simp)) (e_var 0 (fun _ => pv 0)))) (g_name 1 (fun _ => pg_name (i := 1) S.nd rfl (by first | exact .inl rfl | exact .inr rfl))) ts_nil (e_cut (e_var 1 (fun _ => pv 1)) o_none (o_some (e_int))))) a_nil) (fun _ => rfl)) a_nil)))), fun ds c R h => h.2⟩
theorem sc_web_of : FnScope ["rooms"] ["rooms"] (defScope (top 46)) := ⟨rfl, rfl, rfl, by decide +kernel, rfl, by decide +kernel, by decide +kernel⟩
def Ok_web_of (P : Program) (w : World) (K : PySem.W.Frag) (mg : Str → Option Value) (base : Heap) (T : List (Addr × Str)) (gm : Gm) : Prop := ∃ f fd, Gd.FnG P w K mg base (L2.CX P w) 4 f fd ["rooms"] (spF false [] (Ψ_web_of gm)) ∧ FnP K "web_of" (top 46) f fd ∧ mg "web_of" = some (.ref f)
theorem ok_web_of (B : Bs mg) (Sy : Sys K) (Fd : FnP K "web_of" (top 46) f fd) (h_need_rooms : Ok_need_rooms P w K mg base T gm) (h_web_by : Ok_web_by P w K mg base T gm) (gl : mg "web_of" = some (.ref f)) : Ok_web_of P w K mg base T gm := by
  obtain ⟨f_need_rooms, fd_need_rooms, O_need_rooms, F_need_rooms, G_need_rooms⟩ := h_need_rooms
  obtain ⟨f_web_by, fd_web_by, O_web_by, F_web_by, G_web_by⟩ := h_web_by
  have S := sc_web_of
  refine ⟨f, fd, fn_of Fd S (fun ds c R RX h => by have := h.1; simp [this]) (fun cdv A outer s H E hr hG M RX hH hp ht ni hE => ?_), Fd, gl⟩
  exact ⟨_, s_cons (s_expr (e_call (RX := RX) O_need_rooms (by decide) G_need_rooms F_need_rooms.kp (F_need_rooms.bindsN fun _ _ _ _ _ _ us hl => match us, hl with | [_], _ => rfl) hE ni (a_cons (e_var 0 (fun _ => pv 0)) a_nil) (fun _ => rfl))) (s_one (s_ret (e_call (RX := RX) O_web_by (by decide) G_web_by F_web_by.kp (F_web_by.bindsN fun _ _ _ _ _ _ us hl => match us, hl with | [_], _ => rfl) hE ni (a_cons (e_var 0 (fun _ => pv 0)) a_nil) (fun _ => rfl)))), fun ds c R h => h.2⟩
theorem sc_is_end : FnScope ["above", "below", "names", "number", "end", "one", "other", "place"] ["above", "below", "names", "number", "end"] (defScope (top 47)) := ⟨rfl, rfl, rfl, by decide +kernel, rfl, by decide +kernel, by decide +kernel⟩
def Ok_is_end (P : Program) (w : World) (K : PySem.W.Frag) (mg : Str → Option Value) (base : Heap) (T : List (Addr × Str)) (gm : Gm) : Prop := ∃ f fd, Gd.FnG P w K mg base (L2.CX P w) 2 f fd ["above", "below", "names", "number", "end"] (spF false [] (Ψ_is_end gm)) ∧ FnP K "is_end" (top 47) f fd ∧ mg "is_end" = some (.ref f)
theorem ok_is_end (B : Bs mg) (Sy : Sys K) (Fd : FnP K "is_end" (top 47) f fd) (h_is_whole : Ok_is_whole P w K mg base T gm) (h_is_tuple_of : Ok_is_tuple_of P w K mg base T gm) (gl : mg "is_end" = some (.ref f)) : Ok_is_end P w K mg base T gm := by
  obtain ⟨f_is_whole, fd_is_whole, O_is_whole, F_is_whole, G_is_whole⟩ := h_is_whole
  obtain ⟨f_is_tuple_of, fd_is_tuple_of, O_is_tuple_of, F_is_tuple_of, G_is_tuple_of⟩ := h_is_tuple_of
  have S := sc_is_end
  refine ⟨f, fd, fn_of Fd S (fun ds c R RX h => by have := h.1; simp [this]) (fun cdv A outer s H E hr hG M RX hH hp ht ni hE => ?_), Fd, gl⟩
  exact ⟨_, s_cons (s_if (t_w (w_or (t_not (t_val (e_call (RX := RX) O_is_tuple_of (by decide) G_is_tuple_of F_is_tuple_of.kp (F_is_tuple_of.bindsN fun _ _ _ _ _ _ us hl => match us, hl with | [_, _], _ => rfl) hE ni (a_cons (e_var 4 (fun _ => pv 4)) (a_cons (e_int) a_nil)) (fun _ => rfl)))) (w_or (t_not (t_val (e_call (RX := RX) O_is_whole (by decide) G_is_whole F_is_whole.kp (F_is_whole.bindsN fun _ _ _ _ _ _ us hl => match us, hl with | [_], _ => rfl) hE ni (a_cons (e_ix (e_var 4 (fun _ => pv 4)) (e_int)) a_nil) (fun _ => rfl)))) (w_or1 (t_not (t_val (e_isi B.isinstance (a_cons (e_ix (e_var 4 (fun _ => pv 4)) (e_int)) (a_cons (e_ty B.bool boot_boolD (fun _ => rfl)) a_nil)) (fun _ => rfl)))))))) (s_one (s_ret (e_bl))) (s_nil)) (s_cons (s_if (t_not (t_chain (fun _ => op_le) (fun _ => op_lt) (e_int) (e_ix (e_var 4 (fun _ => pv 4)) (e_int)) (e_len B.len (a_cons (e_ix (e_var 1 (fun _ => pv 1)) (e_int)) a_nil) (fun _ => rfl)))) (s_one (s_ret (e_bl))) (s_nil)) (s_cons (s_asg (e_fz (l_lc (own := [("place", 7)]) (fun _ => blkOk_by (own := [("place", 7)]) (N := ["above", "below", "names", "number", "end", "one", "other", "place"]) (sc := defScope (top 47)) (by decide +kernel)) (fun _ => S.nd) (id_seq2 (e_ix (e_ix (e_var 0 (fun _ => pv 0)) (e_int)) (e_var 3 (fun _ => pv 3)))) (g_name 7 (fun _ => pg_name (i := 7) S.nd rfl (by first | exact .inl rfl | exact .inr rfl))) ts_nil (e_ix (e_var 2 (fun _ => pv 2)) (e_var 7 (fun _ => pv 7))))) (g_unl 2 (gs_cons (g_name 5 (fun _ => pg_name (i := 5) S.nd rfl (by first | exact .inl rfl | exact .inr rfl))) (gs_cons (g_name 6 (fun _ => pg_name (i := 6) S.nd rfl (by first | exact .inl rfl | exact .inr rfl))) gs_nil)))) (s_one (s_ret (ec c_eq (e_ix (e_ix (e_var 1 (fun _ => pv 1)) (e_int)) (e_ix (e_var 4 (fun _ => pv 4)) (e_int))) (e_if (t_val (e_ix (e_var 4 (fun _ => pv 4)) (e_int))) (e_tup (a_cons (e_var 6 (fun _ => pv 6)) (a_cons (e_var 5 (fun _ => pv 5)) a_nil))) (e_tup (a_cons (e_var 5 (fun _ => pv 5)) (a_cons (e_var 6 (fun _ => pv 6)) a_nil)))) (nomark _)))))), fun ds c R h => h.2⟩
theorem sc_is_way : FnScope ["above", "below", "value", "names", "name", "number", "end"] ["above", "below", "value"] (defScope (top 48)) := ⟨rfl, rfl, rfl, by decide +kernel, rfl, by decide +kernel, by decide +kernel⟩
def Ok_is_way (P : Program) (w : World) (K : PySem.W.Frag) (mg : Str → Option Value) (base : Heap) (T : List (Addr × Str)) (gm : Gm) : Prop := ∃ f fd, Gd.FnG P w K mg base (L2.CX P w) 3 f fd ["above", "below", "value"] (spF false [] (Ψ_is_way gm)) ∧ FnP K "is_way" (top 48) f fd ∧ mg "is_way" = some (.ref f)
theorem ok_is_way (B : Bs mg) (Sy : Sys K) (Fd : FnP K "is_way" (top 48) f fd) (h_is_tuple_of : Ok_is_tuple_of P w K mg base T gm) (h_is_whole : Ok_is_whole P w K mg base T gm) (h_is_end : Ok_is_end P w K mg base T gm) (gl : mg "is_way" = some (.ref f)) : Ok_is_way P w K mg base T gm := by
  obtain ⟨f_is_tuple_of, fd_is_tuple_of, O_is_tuple_of, F_is_tuple_of, G_is_tuple_of⟩ := h_is_tuple_of
  obtain ⟨f_is_whole, fd_is_whole, O_is_whole, F_is_whole, G_is_whole⟩ := h_is_whole
  obtain ⟨f_is_end, fd_is_end, O_is_end, F_is_end, G_is_end⟩ := h_is_end
  have S := sc_is_way
  refine ⟨f, fd, fn_of Fd S (fun ds c R RX h => by have := h.1; simp [this]) (fun cdv A outer s H E hr hG M RX hH hp ht ni hE => ?_), Fd, gl⟩
  exact ⟨_, s_cons (s_if (t_w (w_or (t_not (t_val (e_call (RX := RX) O_is_tuple_of (by decide) G_is_tuple_of F_is_tuple_of.kp (F_is_tuple_of.bindsN fun _ _ _ _ _ _ us hl => match us, hl with | [_, _], _ => rfl) hE ni (a_cons (e_var 2 (fun _ => pv 2)) (a_cons (e_int) a_nil)) (fun _ => rfl)))) (w_or (t_not (t_val (e_call (RX := RX) O_is_tuple_of (by decide) G_is_tuple_of F_is_tuple_of.kp (F_is_tuple_of.bindsN fun _ _ _ _ _ _ us hl => match us, hl with | [_, _], _ => rfl) hE ni (a_cons (e_ix (e_var 2 (fun _ => pv 2)) (e_int)) (a_cons (e_ix (e_var 0 (fun _ => pv 0)) (e_int)) a_nil)) (fun _ => rfl)))) (w_or1 (t_not (t_val (e_call (RX := RX) O_is_tuple_of (by decide) G_is_tuple_of F_is_tuple_of.kp (F_is_tuple_of.bindsN fun _ _ _ _ _ _ us hl => match us, hl with | [_, _], _ => rfl) hE ni (a_cons (e_ix (e_var 2 (fun _ => pv 2)) (e_int)) (a_cons (e_len B.len (a_cons (e_ix (e_var 0 (fun _ => pv 0)) (e_int)) a_nil) (fun _ => rfl)) a_nil)) (fun _ => rfl)))))))) (s_one (s_ret (e_bl))) (s_nil)) (s_cons (s_setR (fun t h j => ps_set (i := 3) S.nd rfl (by first | exact .inl rfl | exact .inr rfl) (h j)) (e_ix (e_var 2 (fun _ => pv 2)) (e_int))) (s_cons (s_if (t_not (t_val (e_all B.all (a_cons (e_fz (l_lc (own := [("name", 4)]) (fun _ => blkOk_by (own := [("name", 4)]) (N := ["above", "below", "value", "names", "name", "number", "end"]) (sc := defScope (top 48)) (by decide +kernel)) (fun _ => S.nd) (id_seq2 (e_var 3 (fun _ => pv 3))) (g_name 4 (fun _ => pg_name (i := 4) S.nd rfl (by first | exact .inl rfl | exact .inr rfl))) ts_nil ((e_and (e_call (RX := (fun _ _ => False)) O_is_whole (by decide) G_is_whole F_is_whole.kp (F_is_whole.bindsN fun _ _ _ _ _ _ us hl => match us, hl with | [_], _ => rfl) (fun _ _ _ _ _ _ z => z.elim) ni (a_cons (e_var 4 (fun _ => pv 4)) a_nil) (fun _ => rfl)) (e_one (e_chain (fun _ => op_le) (fun _ => op_lt) (e_int) (e_var 4 (fun _ => pv 4)) (e_ix (e_var 1 (fun _ => pv 1)) (e_int)))))))) a_nil) (fun _ => rfl)))) (s_one (s_ret (e_bl))) (s_nil)) (s_one (s_ret (e_all B.all (a_cons (e_fz (l_lc (own := [("number", 5), ("end", 6)]) (fun _ => blkOk_by (own := [("number", 5), ("end", 6)]) (N := ["above", "below", "value", "names", "name", "number", "end"]) (sc := defScope (top 48)) (by decide +kernel)) (fun _ => S.nd) (id_enum (a_cons (e_ix (e_var 2 (fun _ => pv 2)) (e_int)) a_nil) (fun _ => rfl) B.enumerate) (g_tup 2 (gs_cons (g_name 5 (fun _ => pg_name (i := 5) S.nd rfl (by first | exact .inl rfl | exact .inr rfl))) (gs_cons (g_name 6 (fun _ => pg_name (i := 6) S.nd rfl (by first | exact .inl rfl | exact .inr rfl))) gs_nil))) ts_nil (e_call (RX := (fun _ _ => False)) O_is_end (by decide) G_is_end F_is_end.kp (F_is_end.bindsN fun _ _ _ _ _ _ us hl => match us, hl with | [_, _, _, _, _], _ => rfl) (fun _ _ _ _ _ _ z => z.elim) ni (a_cons (e_var 0 (fun _ => pv 0)) (a_cons (e_var 1 (fun _ => pv 1)) (a_cons (e_var 3 (fun _ => pv 3)) (a_cons (e_var 5 (fun _ => pv 5)) (a_cons (e_var 6 (fun _ => pv 6)) a_nil))))) (fun _ => rfl)))) a_nil) (fun _ => rfl)))))), fun ds c R h => h.2⟩
theorem sc_is_web_map : FnScope ["above", "below", "value", "first"] ["above", "below", "value"] (defScope (top 49)) := ⟨rfl, rfl, rfl, by decide +kernel, rfl, by decide +kernel, by decide +kernel⟩
def Ok_is_web_map (P : Program) (w : World) (K : PySem.W.Frag) (mg : Str → Option Value) (base : Heap) (T : List (Addr × Str)) (gm : Gm) : Prop := ∃ f fd, Gd.FnG P w K mg base (L2.CX P w) 14 f fd ["above", "below", "value"] (spF false [] (Ψ_is_web_map gm)) ∧ FnP K "is_web_map" (top 49) f fd ∧ mg "is_web_map" = some (.ref f)
theorem ok_is_web_map (B : Bs mg) (Sy : Sys K) (Fd : FnP K "is_web_map" (top 49) f fd) (h_web_from : Ok_web_from P w K mg base T gm) (h_is_way : Ok_is_way P w K mg base T gm) (gl : mg "is_web_map" = some (.ref f)) : Ok_is_web_map P w K mg base T gm := by
  obtain ⟨f_web_from, fd_web_from, O_web_from, F_web_from, G_web_from⟩ := h_web_from
  obtain ⟨f_is_way, fd_is_way, O_is_way, F_is_way, G_is_way⟩ := h_is_way
  have S := sc_is_web_map
  refine ⟨f, fd, fn_of Fd S (fun ds c R RX h => by have := h.1; simp [this]) (fun cdv A outer s H E hr hG M RX hH hp ht ni hE => ?_), Fd, gl⟩
  exact ⟨_, s_cons (s_setR (fun t h j => ps_set (i := 3) S.nd rfl (by first | exact .inl rfl | exact .inr rfl) (h j)) (e_call (RX := RX) O_web_from (by decide) G_web_from F_web_from.kp (F_web_from.bindsN fun _ _ _ _ _ _ us hl => match us, hl with | [_, _], _ => rfl) hE ni (a_cons (e_str) (a_cons (e_var 0 (fun _ => pv 0)) a_nil)) (fun _ => rfl))) (s_one (s_ret (e_call (RX := RX) O_is_way (by decide) G_is_way F_is_way.kp (F_is_way.bindsN fun _ _ _ _ _ _ us hl => match us, hl with | [_, _, _], _ => rfl) hE ni (a_cons (e_var 3 (fun _ => pv 3)) (a_cons (e_call (RX := RX) O_web_from (by decide) G_web_from F_web_from.kp (F_web_from.bindsN fun _ _ _ _ _ _ us hl => match us, hl with | [_, _], _ => rfl) hE ni (a_cons (e_str) (a_cons (e_var 1 (fun _ => pv 1)) a_nil)) (fun _ => rfl)) (a_cons (e_var 2 (fun _ => pv 2)) a_nil))) (fun _ => rfl)))), fun ds c R h => h.2⟩
theorem sc_way_from : FnScope ["above", "below", "way", "made"] ["above", "below", "way"] (defScope (top 50)) := ⟨rfl, rfl, rfl, by decide +kernel, rfl, by decide +kernel, by decide +kernel⟩
def Ok_way_from (P : Program) (w : World) (K : PySem.W.Frag) (mg : Str → Option Value) (base : Heap) (T : List (Addr × Str)) (gm : Gm) : Prop := ∃ f fd, Gd.FnG P w K mg base (L2.CX P w) 13 f fd ["above", "below", "way"] (spF false [] (Ψ_way_from gm)) ∧ FnP K "way_from" (top 50) f fd ∧ mg "way_from" = some (.ref f)
theorem ok_way_from (B : Bs mg) (Sy : Sys K) (Fd : FnP K "way_from" (top 50) f fd) (T_BadRow : Err P w K mg base "BadRow" (gm.a "BadRow") ["row"]) (h_in_tuples : Ok_in_tuples P w K mg base T gm) (h_is_way : Ok_is_way P w K mg base T gm) (gl : mg "way_from" = some (.ref f)) : Ok_way_from P w K mg base T gm := by
  obtain ⟨f_in_tuples, fd_in_tuples, O_in_tuples, F_in_tuples, G_in_tuples⟩ := h_in_tuples
  obtain ⟨f_is_way, fd_is_way, O_is_way, F_is_way, G_is_way⟩ := h_is_way
  have S := sc_way_from
  refine ⟨f, fd, fn_of Fd S (fun ds c R RX h => by have := h.1; simp [this]) (fun cdv A outer s H E hr hG M RX hH hp ht ni hE => ?_), Fd, gl⟩
  exact ⟨_, s_cons (s_setR (fun t h j => ps_set (i := 3) S.nd rfl (by first | exact .inl rfl | exact .inr rfl) (h j)) (e_call (RX := RX) O_in_tuples (by decide) G_in_tuples F_in_tuples.kp (F_in_tuples.bindsN fun _ _ _ _ _ _ us hl => match us, hl with | [_], _ => rfl) hE ni (a_cons (e_var 2 (fun _ => pv 2)) a_nil) (fun _ => rfl))) (s_cons (s_if (t_not (t_val (e_call (RX := RX) O_is_way (by decide) G_is_way F_is_way.kp (F_is_way.bindsN fun _ _ _ _ _ _ us hl => match us, hl with | [_, _, _], _ => rfl) hE ni (a_cons (e_var 0 (fun _ => pv 0)) (a_cons (e_var 1 (fun _ => pv 1)) (a_cons (e_var 3 (fun _ => pv 3)) a_nil))) (fun _ => rfl)))) (s_one (s_raise T_BadRow (by decide) (a_cons (e_var 2 (fun _ => pv 2)) a_nil) hE ni (fun _ => body_takes) (fun _ => rfl))) (s_nil)) (s_one (s_ret (e_var 3 (fun _ => pv 3))))), fun ds c R h => h.2⟩
theorem sc_behind_web_map : FnScope ["above", "middle", "below", "first", "second", "high", "half", "low", "one", "other", "ends", "tie", "turn", "name"] ["above", "middle", "below", "first", "second"] (defScope (top 51)) := ⟨rfl, rfl, rfl, by decide +kernel, rfl, by decide +kernel, by decide +kernel⟩
def Ok_behind_web_map (P : Program) (w : World) (K : PySem.W.Frag) (mg : Str → Option Value) (base : Heap) (T : List (Addr × Str)) (gm : Gm) : Prop := ∃ f fd, Gd.FnG P w K mg base (L2.CX P w) 14 f fd ["above", "middle", "below", "first", "second"] (spF false [] (Ψ_behind_web_map gm)) ∧ FnP K "behind_web_map" (top 51) f fd ∧ mg "behind_web_map" = some (.ref f)
theorem ok_behind_web_map (B : Bs mg) (Sy : Sys K) (Fd : FnP K "behind_web_map" (top 51) f fd) (h_web_from : Ok_web_from P w K mg base T gm) (h_way_from : Ok_way_from P w K mg base T gm) (gl : mg "behind_web_map" = some (.ref f)) : Ok_behind_web_map P w K mg base T gm := by
  obtain ⟨f_web_from, fd_web_from, O_web_from, F_web_from, G_web_from⟩ := h_web_from
  obtain ⟨f_way_from, fd_way_from, O_way_from, F_way_from, G_way_from⟩ := h_way_from
  have S := sc_behind_web_map
  refine ⟨f, fd, fn_of Fd S (fun ds c R RX h => by have := h.1; simp [this]) (fun cdv A outer s H E hr hG M RX hH hp ht ni hE => ?_), Fd, gl⟩
  exact ⟨_, s_cons (s_setR (fun t h j => ps_set (i := 5) S.nd rfl (by first | exact .inl rfl | exact .inr rfl) (h j)) (e_call (RX := RX) O_web_from (by decide) G_web_from F_web_from.kp (F_web_from.bindsN fun _ _ _ _ _ _ us hl => match us, hl with | [_, _], _ => rfl) hE ni (a_cons (e_str) (a_cons (e_var 0 (fun _ => pv 0)) a_nil)) (fun _ => rfl))) (s_cons (s_setR (fun t h j => ps_set (i := 6) S.nd rfl (by first | exact .inl rfl | exact .inr rfl) (h j)) (e_call (RX := RX) O_web_from (by decide) G_web_from F_web_from.kp (F_web_from.bindsN fun _ _ _ _ _ _ us hl => match us, hl with | [_, _], _ => rfl) hE ni (a_cons (e_str) (a_cons (e_var 1 (fun _ => pv 1)) a_nil)) (fun _ => rfl))) (s_cons (s_setR (fun t h j => ps_set (i := 7) S.nd rfl (by first | exact .inl rfl | exact .inr rfl) (h j)) (e_call (RX := RX) O_web_from (by decide) G_web_from F_web_from.kp (F_web_from.bindsN fun _ _ _ _ _ _ us hl => match us, hl with | [_, _], _ => rfl) hE ni (a_cons (e_str) (a_cons (e_var 2 (fun _ => pv 2)) a_nil)) (fun _ => rfl))) (s_cons (s_setR (fun t h j => ps_set (i := 8) S.nd rfl (by first | exact .inl rfl | exact .inr rfl) (h j)) (e_call (RX := RX) O_way_from (by decide) G_way_from F_way_from.kp (F_way_from.bindsN fun _ _ _ _ _ _ us hl => match us, hl with | [_, _, _], _ => rfl) hE ni (a_cons (e_var 5 (fun _ => pv 5)) (a_cons (e_var 6 (fun _ => pv 6)) (a_cons (e_var 3 (fun _ => pv 3)) a_nil))) (fun _ => rfl))) (s_cons (s_setR (fun t h j => ps_set (i := 9) S.nd rfl (by first | exact .inl rfl | exact .inr rfl) (h j)) (e_call (RX := RX) O_way_from (by decide) G_way_from F_way_from.kp (F_way_from.bindsN fun _ _ _ _ _ _ us hl => match us, hl with | [_, _, _], _ => rfl) hE ni (a_cons (e_var 6 (fun _ => pv 6)) (a_cons (e_var 7 (fun _ => pv 7)) (a_cons (e_var 4 (fun _ => pv 4)) a_nil))) (fun _ => rfl))) (s_cons (s_setLc 10 (own := [("tie", 11), ("turn", 12)]) (fun _ => rfl) (fun _ => rfl) (fun _ => rfl) (fun _ => blkOk_by (own := [("tie", 11), ("turn", 12)]) (N := ["above", "middle", "below", "first", "second", "high", "half", "low", "one", "other", "ends", "tie", "turn", "name"]) (sc := defScope (top 51)) (by decide +kernel)) (fun _ => S.nd) (id_seq2 (e_ix (e_var 8 (fun _ => pv 8)) (e_int))) (g_tup 2 (gs_cons (g_name 11 (fun _ => pg_name (i := 11) S.nd rfl (by first | exact .inl rfl | exact .inr rfl))) (gs_cons (g_name 12 (fun _ => pg_name (i := 12) S.nd rfl (by first | exact .inl rfl | exact .inr rfl))) gs_nil))) ts_nil (e_tup (a_cons (e_ix (e_ix (e_ix (e_var 9 (fun _ => pv 9)) (e_int)) (e_var 11 (fun _ => pv 11))) (e_int)) (a_cons (ec c_ne (e_ix (e_ix (e_ix (e_var 9 (fun _ => pv 9)) (e_int)) (e_var 11 (fun _ => pv 11))) (e_int)) (e_var 12 (fun _ => pv 12)) (nomark _)) a_nil)))) (s_one (s_ret (e_tup (a_cons (e_tuple B.tuple (a_cons (e_fz (l_lc (own := [("name", 13)]) (fun _ => blkOk_by (own := [("name", 13)]) (N := ["above", "middle", "below", "first", "second", "high", "half", "low", "one", "other", "ends", "tie", "turn", "name"]) (sc := defScope (top 51)) (by decide +kernel)) (fun _ => S.nd) (id_seq2 (e_ix (e_var 8 (fun _ => pv 8)) (e_int))) (g_name 13 (fun _ => pg_name (i := 13) S.nd rfl (by first | exact .inl rfl | exact .inr rfl))) ts_nil (e_ix (e_ix (e_var 9 (fun _ => pv 9)) (e_int)) (e_var 13 (fun _ => pv 13))))) a_nil) (fun _ => rfl)) (a_cons (e_tuple B.tuple (a_cons (e_var 10 (fun _ => pv 10)) a_nil) (fun _ => rfl)) a_nil)))))))))), fun ds c R h => h.2⟩
theorem sc_ends_over : FnScope ["above", "made", "place", "tie", "side", "out", "number", "pair", "other", "turn"] ["above", "made", "place", "tie", "side"] (defScope (top 52)) := ⟨rfl, rfl, rfl, by decide +kernel, rfl, by decide +kernel, by decide +kernel⟩
def Ok_ends_over (P : Program) (w : World) (K : PySem.W.Frag) (mg : Str → Option Value) (base : Heap) (T : List (Addr × Str)) (gm : Gm) : Prop := ∃ f fd, Gd.FnG P w K mg base (L2.CX P w) 1 f fd ["above", "made", "place", "tie", "side"] (spF false [] (Ψ_ends_over gm)) ∧ FnP K "ends_over" (top 52) f fd ∧ mg "ends_over" = some (.ref f)
theorem ok_ends_over (B : Bs mg) (Sy : Sys K) (Fd : FnP K "ends_over" (top 52) f fd) (gl : mg "ends_over" = some (.ref f)) : Ok_ends_over P w K mg base T gm := by
  have S := sc_ends_over
  refine ⟨f, fd, fn_of Fd S (fun ds c R RX h => by have := h.1; simp [this]) (fun cdv A outer s H E hr hG M RX hH hp ht ni hE => ?_), Fd, gl⟩
  exact ⟨_, s_cons (s_ownR (fun t h j => ps_set (i := 5) S.nd rfl (by first | exact .inl rfl | exact .inr rfl) (h j)) (l_lst a_nil)) (s_cons (s_for (fun _ => body_own) (id_enum (a_cons (e_ix (e_var 0 (fun _ => pv 0)) (e_int)) a_nil) (fun _ => rfl) B.enumerate) (g_tup 2 (gs_cons (g_name 6 (fun _ => pg_name (i := 6) S.nd rfl (by first | exact .inl rfl | exact .inr rfl))) (gs_cons (g_name 7 (fun _ => pg_name (i := 7) S.nd rfl (by first | exact .inl rfl | exact .inr rfl))) gs_nil))) (s_cons (s_asg (e_ix (e_ix (e_var 1 (fun _ => pv 1)) (e_int)) (e_var 6 (fun _ => pv 6))) (g_tup 2 (gs_cons (g_name 8 (fun _ => pg_name (i := 8) S.nd rfl (by first | exact .inl rfl | exact .inr rfl))) (gs_cons (g_name 9 (fun _ => pg_name (i := 9) S.nd rfl (by first | exact .inl rfl | exact .inr rfl))) gs_nil)))) (s_one (s_if (t_w (w_and (tc c_eq (e_var 8 (fun _ => pv 8)) (e_var 3 (fun _ => pv 3)) (nomark _)) (w_and1 (tc c_eq (e_ix (e_var 7 (fun _ => pv 7)) (e_if (t_val (e_var 9 (fun _ => pv 9))) (e_sub (e_int) (e_var 4 (fun _ => pv 4))) (e_var 4 (fun _ => pv 4)))) (e_var 2 (fun _ => pv 2)) (nomark _))))) (s_one (s_append 5 (fun _ => pv 5) (e_var 6 (fun _ => pv 6)))) (s_nil))))) (s_frz 5 (s_one (s_ret (e_var 5 (fun _ => pv 5)))))), fun ds c R h => h.2⟩
theorem sc_is_cover_by : FnScope ["above", "below", "made", "place", "tie", "pair", "side"] ["above", "below", "made"] (defScope (top 53)) := ⟨rfl, rfl, rfl, by decide +kernel, rfl, by decide +kernel, by decide +kernel⟩
def Ok_is_cover_by (P : Program) (w : World) (K : PySem.W.Frag) (mg : Str → Option Value) (base : Heap) (T : List (Addr × Str)) (gm : Gm) : Prop := ∃ f fd, Gd.FnG P w K mg base (L2.CX P w) 2 f fd ["above", "below", "made"] (spF false [] (Ψ_is_cover_by gm)) ∧ FnP K "is_cover_by" (top 53) f fd ∧ mg "is_cover_by" = some (.ref f)
theorem ok_is_cover_by (B : Bs mg) (Sy : Sys K) (Fd : FnP K "is_cover_by" (top 53) f fd) (h_ends_over : Ok_ends_over P w K mg base T gm) (gl : mg "is_cover_by" = some (.ref f)) : Ok_is_cover_by P w K mg base T gm := by
  obtain ⟨f_ends_over, fd_ends_over, O_ends_over, F_ends_over, G_ends_over⟩ := h_ends_over
  have S := sc_is_cover_by
  refine ⟨f, fd, fn_of Fd S (fun ds c R RX h => by have := h.1; simp [this]) (fun cdv A outer s H E hr hG M RX hH hp ht ni hE => ?_), Fd, gl⟩
  exact ⟨_, s_cons (s_for (fun _ => body_own) (id_rng (a_cons (e_ix (e_var 0 (fun _ => pv 0)) (e_int)) a_nil) (fun _ => rfl) B.range) (g_name 3 (fun _ => pg_name (i := 3) S.nd rfl (by first | exact .inl rfl | exact .inr rfl))) (s_one (s_for (fun _ => body_own) (id_enum (a_cons (e_ix (e_var 1 (fun _ => pv 1)) (e_int)) a_nil) (fun _ => rfl) B.enumerate) (g_tup 2 (gs_cons (g_name 4 (fun _ => pg_name (i := 4) S.nd rfl (by first | exact .inl rfl | exact .inr rfl))) (gs_cons (g_name 5 (fun _ => pg_name (i := 5) S.nd rfl (by first | exact .inl rfl | exact .inr rfl))) gs_nil))) (s_one (s_for (fun _ => body_own) (id_rng (a_cons (e_int) a_nil) (fun _ => rfl) B.range) (g_name 6 (fun _ => pg_name (i := 6) S.nd rfl (by first | exact .inl rfl | exact .inr rfl))) (s_one (s_if (t_w (w_and (tc c_eq (e_ix (e_var 5 (fun _ => pv 5)) (e_var 6 (fun _ => pv 6))) (e_ix (e_ix (e_var 2 (fun _ => pv 2)) (e_int)) (e_var 3 (fun _ => pv 3))) (nomark _)) (w_and1 (tc c_ne (e_len B.len (a_cons (e_call (RX := RX) O_ends_over (by decide) G_ends_over F_ends_over.kp (F_ends_over.bindsN fun _ _ _ _ _ _ us hl => match us, hl with | [_, _, _, _, _], _ => rfl) hE ni (a_cons (e_var 0 (fun _ => pv 0)) (a_cons (e_var 2 (fun _ => pv 2)) (a_cons (e_var 3 (fun _ => pv 3)) (a_cons (e_var 4 (fun _ => pv 4)) (a_cons (e_var 6 (fun _ => pv 6)) a_nil))))) (fun _ => rfl)) a_nil) (fun _ => rfl)) (e_int) (nomark _))))) (s_one (s_ret (e_bl))) (s_nil)))))))) (s_one (s_ret (e_bl))), fun ds c R h => h.2⟩
theorem sc_is_cover : FnScope ["above", "below", "way", "first", "second"] ["above", "below", "way"] (defScope (top 54)) := ⟨rfl, rfl, rfl, by decide +kernel, rfl, by decide +kernel, by decide +kernel⟩
def Ok_is_cover (P : Program) (w : World) (K : PySem.W.Frag) (mg : Str → Option Value) (base : Heap) (T : List (Addr × Str)) (gm : Gm) : Prop := ∃ f fd, Gd.FnG P w K mg base (L2.CX P w) 14 f fd ["above", "below", "way"] (spF false [] (Ψ_is_cover gm)) ∧ FnP K "is_cover" (top 54) f fd ∧ mg "is_cover" = some (.ref f)
theorem ok_is_cover (B : Bs mg) (Sy : Sys K) (Fd : FnP K "is_cover" (top 54) f fd) (h_web_from : Ok_web_from P w K mg base T gm) (h_is_cover_by : Ok_is_cover_by P w K mg base T gm) (h_way_from : Ok_way_from P w K mg base T gm) (gl : mg "is_cover" = some (.ref f)) : Ok_is_cover P w K mg base T gm := by
  obtain ⟨f_web_from, fd_web_from, O_web_from, F_web_from, G_web_from⟩ := h_web_from
  obtain ⟨f_is_cover_by, fd_is_cover_by, O_is_cover_by, F_is_cover_by, G_is_cover_by⟩ := h_is_cover_by
  obtain ⟨f_way_from, fd_way_from, O_way_from, F_way_from, G_way_from⟩ := h_way_from
  have S := sc_is_cover
  refine ⟨f, fd, fn_of Fd S (fun ds c R RX h => by have := h.1; simp [this]) (fun cdv A outer s H E hr hG M RX hH hp ht ni hE => ?_), Fd, gl⟩
  exact ⟨_, s_cons (s_setR (fun t h j => ps_set (i := 3) S.nd rfl (by first | exact .inl rfl | exact .inr rfl) (h j)) (e_call (RX := RX) O_web_from (by decide) G_web_from F_web_from.kp (F_web_from.bindsN fun _ _ _ _ _ _ us hl => match us, hl with | [_, _], _ => rfl) hE ni (a_cons (e_str) (a_cons (e_var 0 (fun _ => pv 0)) a_nil)) (fun _ => rfl))) (s_cons (s_setR (fun t h j => ps_set (i := 4) S.nd rfl (by first | exact .inl rfl | exact .inr rfl) (h j)) (e_call (RX := RX) O_web_from (by decide) G_web_from F_web_from.kp (F_web_from.bindsN fun _ _ _ _ _ _ us hl => match us, hl with | [_, _], _ => rfl) hE ni (a_cons (e_str) (a_cons (e_var 1 (fun _ => pv 1)) a_nil)) (fun _ => rfl))) (s_one (s_ret (e_call (RX := RX) O_is_cover_by (by decide) G_is_cover_by F_is_cover_by.kp (F_is_cover_by.bindsN fun _ _ _ _ _ _ us hl => match us, hl with | [_, _, _], _ => rfl) hE ni (a_cons (e_var 3 (fun _ => pv 3)) (a_cons (e_var 4 (fun _ => pv 4)) (a_cons (e_call (RX := RX) O_way_from (by decide) G_way_from F_way_from.kp (F_way_from.bindsN fun _ _ _ _ _ _ us hl => match us, hl with | [_, _, _], _ => rfl) hE ni (a_cons (e_var 3 (fun _ => pv 3)) (a_cons (e_var 4 (fun _ => pv 4)) (a_cons (e_var 2 (fun _ => pv 2)) a_nil))) (fun _ => rfl)) a_nil))) (fun _ => rfl))))), fun ds c R h => h.2⟩
theorem sc__law_pick : FnScope ["pen", "some"] ["pen", "some"] (defScope (top 58)) := ⟨rfl, rfl, rfl, by decide +kernel, rfl, by decide +kernel, by decide +kernel⟩
def Ok__law_pick (P : Program) (w : World) (K : PySem.W.Frag) (mg : Str → Option Value) (base : Heap) (T : List (Addr × Str)) (gm : Gm) : Prop := ∃ f fd, Gd.FnG P w K mg base (L2.CX P w) 2 f fd ["pen", "some"] (spF true T (Ψ__law_pick gm)) ∧ FnP K "_law_pick" (top 58) f fd ∧ mg "_law_pick" = some (.ref f)
theorem ok__law_pick (B : Bs mg) (Sy : Sys K) (Fd : FnP K "_law_pick" (top 58) f fd) (h__law_draw : Ok__law_draw P w K mg base T gm) (gl : mg "_law_pick" = some (.ref f)) : Ok__law_pick P w K mg base T gm := by
  obtain ⟨f__law_draw, fd__law_draw, O__law_draw, F__law_draw, G__law_draw⟩ := h__law_draw
  have S := sc__law_pick
  refine ⟨f, fd, fn_of Fd S (fun ds c R RX h => by have := h.1; simp [this]) (fun cdv A outer s H E hr hG M RX hH hp ht ni hE => ?_), Fd, gl⟩
  exact ⟨_, s_one (s_ret (e_ix (e_var 1 (fun _ => pv 1)) (e_callP (RX := RX) 0 O__law_draw (by decide) G__law_draw F__law_draw.kp (F__law_draw.bindsN fun _ _ _ _ _ _ us hl => match us, hl with | [_, _], _ => rfl) hE ni ht (fun _ => pv 0) (a_cons (e_len B.len (a_cons (e_var 1 (fun _ => pv 1)) a_nil) (fun _ => rfl)) a_nil) (fun _ => rfl)))), fun ds c R h => h.2⟩
theorem sc__law_shuffled : FnScope ["pen", "some", "left", "found", "lap"] ["pen", "some"] (defScope (top 59)) := ⟨rfl, rfl, rfl, by decide +kernel, rfl, by decide +kernel, by decide +kernel⟩
def Ok__law_shuffled (P : Program) (w : World) (K : PySem.W.Frag) (mg : Str → Option Value) (base : Heap) (T : List (Addr × Str)) (gm : Gm) : Prop := ∃ f fd, Gd.FnG P w K mg base (L2.CX P w) 2 f fd ["pen", "some"] (spF true T (Ψ__law_shuffled gm)) ∧ FnP K "_law_shuffled" (top 59) f fd ∧ mg "_law_shuffled" = some (.ref f)
theorem ok__law_shuffled (B : Bs mg) (Sy : Sys K) (Fd : FnP K "_law_shuffled" (top 59) f fd) (h__law_draw : Ok__law_draw P w K mg base T gm) (gl : mg "_law_shuffled" = some (.ref f)) : Ok__law_shuffled P w K mg base T gm := by
  obtain ⟨f__law_draw, fd__law_draw, O__law_draw, F__law_draw, G__law_draw⟩ := h__law_draw
  have S := sc__law_shuffled
  refine ⟨f, fd, fn_of Fd S (fun ds c R RX h => by have := h.1; simp [this]) (fun cdv A outer s H E hr hG M RX hH hp ht ni hE => ?_), Fd, gl⟩
  exact ⟨_, s_cons (s_parR (i := 2) (j := 3) (by decide) (fun t u h1 h2 q => ps_par (i := 2) (j := 3) rfl S.nd rfl rfl (by decide) rfl rfl (pa_cons (h1 q) (pa_cons (h2 q) pa_nil)) rfl) (p_own (l_list B.list (a_cons (e_var 1 (fun _ => pv 1)) a_nil) (fun _ => rfl))) (p_own (l_lst a_nil))) (s_cons (s_for (fun _ => body_own) (id_rng (a_cons (e_len B.len (a_cons (e_var 1 (fun _ => pv 1)) a_nil) (fun _ => rfl)) a_nil) (fun _ => rfl) B.range) (g_name 4 (fun _ => pg_name (i := 4) S.nd rfl (by first | exact .inl rfl | exact .inr rfl))) (s_one (s_append 3 (fun _ => pv 3) (e_popO 2 (fun _ => pv 2) (e_callP (RX := RX) 0 O__law_draw (by decide) G__law_draw F__law_draw.kp (F__law_draw.bindsN fun _ _ _ _ _ _ us hl => match us, hl with | [_, _], _ => rfl) hE ni ht (fun _ => pv 0) (a_cons (e_lenO B.len 2 (fun _ => pv 2) (fun _ => rfl)) a_nil) (fun _ => rfl)))))) (s_frz 3 (s_one (s_ret (e_var 3 (fun _ => pv 3)))))), fun ds c R h => h.2⟩
theorem sc__law_is_int : FnScope ["thing"] ["thing"] (defScope (top 60)) := ⟨rfl, rfl, rfl, by decide +kernel, rfl, by decide +kernel, by decide +kernel⟩
def Ok__law_is_int (P : Program) (w : World) (K : PySem.W.Frag) (mg : Str → Option Value) (base : Heap) (T : List (Addr × Str)) (gm : Gm) : Prop := ∃ f fd, Gd.FnG P w K mg base (L2.CX P w) 1 f fd ["thing"] (spF false [] (Ψ__law_is_int gm)) ∧ FnP K "_law_is_int" (top 60) f fd ∧ mg "_law_is_int" = some (.ref f)
theorem ok__law_is_int (B : Bs mg) (Sy : Sys K) (Fd : FnP K "_law_is_int" (top 60) f fd) (gl : mg "_law_is_int" = some (.ref f)) : Ok__law_is_int P w K mg base T gm := by
  have S := sc__law_is_int
  refine ⟨f, fd, fn_of Fd S (fun ds c R RX h => by have := h.1; simp [this]) (fun cdv A outer s H E hr hG M RX hH hp ht ni hE => ?_), Fd, gl⟩
  exact ⟨_, s_one (s_ret ((e_and (e_isi B.isinstance (a_cons (e_var 0 (fun _ => pv 0)) (a_cons (e_ty B.int boot_intD (fun _ => rfl)) a_nil)) (fun _ => rfl)) (e_one (e_not (e_isi B.isinstance (a_cons (e_var 0 (fun _ => pv 0)) (a_cons (e_ty B.bool boot_boolD (fun _ => rfl)) a_nil)) (fun _ => rfl))))))), fun ds c R h => h.2⟩
theorem sc__law_gcd : FnScope ["one", "two", "lap"] ["one", "two"] (defScope (top 61)) := ⟨rfl, rfl, rfl, by decide +kernel, rfl, by decide +kernel, by decide +kernel⟩
def Ok__law_gcd (P : Program) (w : World) (K : PySem.W.Frag) (mg : Str → Option Value) (base : Heap) (T : List (Addr × Str)) (gm : Gm) : Prop := ∃ f fd, Gd.FnG P w K mg base (L2.CX P w) 1 f fd ["one", "two"] (spF false [] (Ψ__law_gcd gm)) ∧ FnP K "_law_gcd" (top 61) f fd ∧ mg "_law_gcd" = some (.ref f)
theorem ok__law_gcd (B : Bs mg) (Sy : Sys K) (Fd : FnP K "_law_gcd" (top 61) f fd) (gl : mg "_law_gcd" = some (.ref f)) : Ok__law_gcd P w K mg base T gm := by
  have S := sc__law_gcd
  refine ⟨f, fd, fn_of Fd S (fun ds c R RX h => by have := h.1; simp [this]) (fun cdv A outer s H E hr hG M RX hH hp ht ni hE => ?_), Fd, gl⟩
  exact ⟨_, s_cons (s_parR (i := 0) (j := 1) (by decide) (fun t u h1 h2 q => ps_par (i := 0) (j := 1) rfl S.nd rfl rfl (by decide) rfl rfl (pa_cons (h1 q) (pa_cons (h2 q) pa_nil)) rfl) (p_d (e_abs B.abs (a_cons (e_var 0 (fun _ => pv 0)) a_nil) (fun _ => rfl))) (p_d (e_abs B.abs (a_cons (e_var 1 (fun _ => pv 1)) a_nil) (fun _ => rfl)))) (s_cons (s_for (fun _ => body_own) (id_rng (a_cons (e_addX (e_int) (e_mulX (e_int) (e_bits (e_intc B.int (a_cons (e_var 1 (fun _ => pv 1)) a_nil) (fun _ => rfl))))) a_nil) (fun _ => rfl) B.range) (g_name 2 (fun _ => pg_name (i := 2) S.nd rfl (by first | exact .inl rfl | exact .inr rfl))) (s_cons (s_if (tc c_eq (e_var 1 (fun _ => pv 1)) (e_int) (nomark _)) (s_one (s_break)) (s_nil)) (s_one (s_parR (i := 0) (j := 1) (by decide) (fun t u h1 h2 q => ps_par (i := 0) (j := 1) rfl S.nd rfl rfl (by decide) rfl rfl (pa_cons (h1 q) (pa_cons (h2 q) pa_nil)) rfl) (p_d (e_var 1 (fun _ => pv 1))) (p_d (e_mod (e_intc B.int (a_cons (e_var 0 (fun _ => pv 0)) a_nil) (fun _ => rfl)) (e_var 1 (fun _ => pv 1)))))))) (s_one (s_ret (e_var 0 (fun _ => pv 0))))), fun ds c R h => h.2⟩
theorem sc__law_q : FnScope ["top", "bottom", "by"] ["top", "bottom"] (defScope (top 62)) := ⟨rfl, rfl, rfl, by decide +kernel, rfl, by decide +kernel, by decide +kernel⟩
def Ok__law_q (P : Program) (w : World) (K : PySem.W.Frag) (mg : Str → Option Value) (base : Heap) (T : List (Addr × Str)) (gm : Gm) : Prop := ∃ f fd, Gd.FnG P w K mg base (L2.CX P w) 2 f fd ["top", "bottom"] (spF false [] (Ψ__law_q gm)) ∧ FnP K "_law_q" (top 62) f fd ∧ mg "_law_q" = some (.ref f)
theorem ok__law_q (B : Bs mg) (Sy : Sys K) (Fd : FnP K "_law_q" (top 62) f fd) (h__law_gcd : Ok__law_gcd P w K mg base T gm) (gl : mg "_law_q" = some (.ref f)) : Ok__law_q P w K mg base T gm := by
  obtain ⟨f__law_gcd, fd__law_gcd, O__law_gcd, F__law_gcd, G__law_gcd⟩ := h__law_gcd
  have S := sc__law_q
  refine ⟨f, fd, fn_of Fd S (fun ds c R RX h => by have := h.1; simp [this]) (fun cdv A outer s H E hr hG M RX hH hp ht ni hE => ?_), Fd, gl⟩
  exact ⟨_, s_cons (s_setR (fun t h j => ps_set (i := 2) S.nd rfl (by first | exact .inl rfl | exact .inr rfl) (h j)) (e_call (RX := RX) O__law_gcd (by decide) G__law_gcd F__law_gcd.kp (F__law_gcd.bindsN fun _ _ _ _ _ _ us hl => match us, hl with | [_, _], _ => rfl) hE ni (a_cons (e_var 0 (fun _ => pv 0)) (a_cons (e_var 1 (fun _ => pv 1)) a_nil)) (fun _ => rfl))) (s_cons (s_setR (fun t h j => ps_set (i := 2) S.nd rfl (by first | exact .inl rfl | exact .inr rfl) (h j)) (e_if (tc c_lt (e_var 1 (fun _ => pv 1)) (e_int) (nomark _)) (e_neg (e_var 2 (fun _ => pv 2))) (e_var 2 (fun _ => pv 2)))) (s_one (s_ret (e_tup (a_cons (e_fdiv (e_var 0 (fun _ => pv 0)) (e_var 2 (fun _ => pv 2))) (a_cons (e_fdiv (e_var 1 (fun _ => pv 1)) (e_var 2 (fun _ => pv 2))) a_nil)))))), fun ds c R h => h.2⟩
theorem sc__law_number : FnScope ["pen", "most", "top"] ["pen", "most"] (defScope (top 63)) := ⟨rfl, rfl, rfl, by decide +kernel, rfl, by decide +kernel, by decide +kernel⟩
def Ok__law_number (P : Program) (w : World) (K : PySem.W.Frag) (mg : Str → Option Value) (base : Heap) (T : List (Addr × Str)) (gm : Gm) : Prop := ∃ f fd, Gd.FnG P w K mg base (L2.CX P w) 3 f fd ["pen", "most"] (spF true T (Ψ__law_number gm)) ∧ FnP K "_law_number" (top 63) f fd ∧ mg "_law_number" = some (.ref f)
theorem ok__law_number (B : Bs mg) (Sy : Sys K) (Fd : FnP K "_law_number" (top 63) f fd) (h__law_draw : Ok__law_draw P w K mg base T gm) (h__law_q : Ok__law_q P w K mg base T gm) (h__law_pick : Ok__law_pick P w K mg base T gm) (gl : mg "_law_number" = some (.ref f)) : Ok__law_number P w K mg base T gm := by
  obtain ⟨f__law_draw, fd__law_draw, O__law_draw, F__law_draw, G__law_draw⟩ := h__law_draw
  obtain ⟨f__law_q, fd__law_q, O__law_q, F__law_q, G__law_q⟩ := h__law_q
  obtain ⟨f__law_pick, fd__law_pick, O__law_pick, F__law_pick, G__law_pick⟩ := h__law_pick
  have S := sc__law_number
  refine ⟨f, fd, fn_of Fd S (fun ds c R RX h => by have := h.1; simp [this]) (fun cdv A outer s H E hr hG M RX hH hp ht ni hE => ?_), Fd, gl⟩
  exact ⟨_, s_cons (s_setR (fun t h j => ps_set (i := 2) S.nd rfl (by first | exact .inl rfl | exact .inr rfl) (h j)) (e_sub (e_callP (RX := RX) 0 O__law_draw (by decide) G__law_draw F__law_draw.kp (F__law_draw.bindsN fun _ _ _ _ _ _ us hl => match us, hl with | [_, _], _ => rfl) hE ni ht (fun _ => pv 0) (a_cons (e_addX (e_mulX (e_int) (e_var 1 (fun _ => pv 1))) (e_int)) a_nil) (fun _ => rfl)) (e_var 1 (fun _ => pv 1)))) (s_one (s_ret (e_call (RX := RX) O__law_q (by decide) G__law_q F__law_q.kp (F__law_q.bindsN fun _ _ _ _ _ _ us hl => match us, hl with | [_, _], _ => rfl) hE ni (a_cons (e_var 2 (fun _ => pv 2)) (a_cons (e_callP (RX := RX) 0 O__law_pick (by decide) G__law_pick F__law_pick.kp (F__law_pick.bindsN fun _ _ _ _ _ _ us hl => match us, hl with | [_, _], _ => rfl) hE ni ht (fun _ => pv 0) (a_cons (e_fz (l_lst (a_cons (e_int) (a_cons (e_int) (a_cons (e_int) (a_cons (e_int) (a_cons (e_int) a_nil))))))) a_nil) (fun _ => rfl)) a_nil)) (fun _ => rfl)))), fun ds c R h => h.2⟩
theorem sc__law_field : FnScope ["pen"] ["pen"] (defScope (top 64)) := ⟨rfl, rfl, rfl, by decide +kernel, rfl, by decide +kernel, by decide +kernel⟩
def Ok__law_field (P : Program) (w : World) (K : PySem.W.Frag) (mg : Str → Option Value) (base : Heap) (T : List (Addr × Str)) (gm : Gm) : Prop := ∃ f fd, Gd.FnG P w K mg base (L2.CX P w) 3 f fd ["pen"] (spF true T (Ψ__law_field gm)) ∧ FnP K "_law_field" (top 64) f fd ∧ mg "_law_field" = some (.ref f)
theorem ok__law_field (B : Bs mg) (Sy : Sys K) (Fd : FnP K "_law_field" (top 64) f fd) (h__law_pick : Ok__law_pick P w K mg base T gm) (gl : mg "_law_field" = some (.ref f)) : Ok__law_field P w K mg base T gm := by
  obtain ⟨f__law_pick, fd__law_pick, O__law_pick, F__law_pick, G__law_pick⟩ := h__law_pick
  have S := sc__law_field
  refine ⟨f, fd, fn_of Fd S (fun ds c R RX h => by have := h.1; simp [this]) (fun cdv A outer s H E hr hG M RX hH hp ht ni hE => ?_), Fd, gl⟩
  exact ⟨_, s_one (s_ret (e_callP (RX := RX) 0 O__law_pick (by decide) G__law_pick F__law_pick.kp (F__law_pick.bindsN fun _ _ _ _ _ _ us hl => match us, hl with | [_, _], _ => rfl) hE ni ht (fun _ => pv 0) (a_cons (e_fz (l_lst (a_cons (e_int) (a_cons (e_int) (a_cons (e_int) (a_cons (e_int) (a_cons (e_int) (a_cons (e_int) a_nil)))))))) a_nil) (fun _ => rfl))), fun ds c R h => h.2⟩
theorem sc__law_item : FnScope ["pen", "field"] ["pen", "field"] (defScope (top 65)) := ⟨rfl, rfl, rfl, by decide +kernel, rfl, by decide +kernel, by decide +kernel⟩
def Ok__law_item (P : Program) (w : World) (K : PySem.W.Frag) (mg : Str → Option Value) (base : Heap) (T : List (Addr × Str)) (gm : Gm) : Prop := ∃ f fd, Gd.FnG P w K mg base (L2.CX P w) 4 f fd ["pen", "field"] (spF true T (Ψ__law_item gm)) ∧ FnP K "_law_item" (top 65) f fd ∧ mg "_law_item" = some (.ref f)
theorem ok__law_item (B : Bs mg) (Sy : Sys K) (Fd : FnP K "_law_item" (top 65) f fd) (h__law_number : Ok__law_number P w K mg base T gm) (h__law_draw : Ok__law_draw P w K mg base T gm) (gl : mg "_law_item" = some (.ref f)) : Ok__law_item P w K mg base T gm := by
  obtain ⟨f__law_number, fd__law_number, O__law_number, F__law_number, G__law_number⟩ := h__law_number
  obtain ⟨f__law_draw, fd__law_draw, O__law_draw, F__law_draw, G__law_draw⟩ := h__law_draw
  have S := sc__law_item
  refine ⟨f, fd, fn_of Fd S (fun ds c R RX h => by have := h.1; simp [this]) (fun cdv A outer s H E hr hG M RX hH hp ht ni hE => ?_), Fd, gl⟩
  exact ⟨_, s_one (s_ret (e_if (tc c_eq (e_var 1 (fun _ => pv 1)) (e_int) (nomark _)) (e_callP (RX := RX) 0 O__law_number (by decide) G__law_number F__law_number.kp (F__law_number.bindsN fun _ _ _ _ _ _ us hl => match us, hl with | [_, _], _ => rfl) hE ni ht (fun _ => pv 0) (a_cons (e_int) a_nil) (fun _ => rfl)) (e_callP (RX := RX) 0 O__law_draw (by decide) G__law_draw F__law_draw.kp (F__law_draw.bindsN fun _ _ _ _ _ _ us hl => match us, hl with | [_, _], _ => rfl) hE ni ht (fun _ => pv 0) (a_cons (e_var 1 (fun _ => pv 1)) a_nil) (fun _ => rfl)))), fun ds c R h => h.2⟩
theorem sc__law_row : FnScope ["pen", "field", "long", "k"] ["pen", "field", "long"] (defScope (top 66)) := ⟨rfl, rfl, rfl, by decide +kernel, rfl, by decide +kernel, by decide +kernel⟩
def Ok__law_row (P : Program) (w : World) (K : PySem.W.Frag) (mg : Str → Option Value) (base : Heap) (T : List (Addr × Str)) (gm : Gm) : Prop := ∃ f fd, Gd.FnG P w K mg base (L2.CX P w) 5 f fd ["pen", "field", "long"] (spF true T (Ψ__law_row gm)) ∧ FnP K "_law_row" (top 66) f fd ∧ mg "_law_row" = some (.ref f)
theorem ok__law_row (B : Bs mg) (Sy : Sys K) (Fd : FnP K "_law_row" (top 66) f fd) (h__law_item : Ok__law_item P w K mg base T gm) (gl : mg "_law_row" = some (.ref f)) : Ok__law_row P w K mg base T gm := by
  obtain ⟨f__law_item, fd__law_item, O__law_item, F__law_item, G__law_item⟩ := h__law_item
  have S := sc__law_row
  refine ⟨f, fd, fn_of Fd S (fun ds c R RX h => by have := h.1; simp [this]) (fun cdv A outer s H E hr hG M RX hH hp ht ni hE => ?_), Fd, gl⟩
  exact ⟨_, s_one (s_ret (e_tuple B.tuple (a_cons (e_fz (l_lc (own := [("k", 3)]) (fun _ => blkOk_by (own := [("k", 3)]) (N := ["pen", "field", "long", "k"]) (sc := defScope (top 66)) (by decide +kernel)) (fun _ => S.nd) (id_rng (a_cons (e_var 2 (fun _ => pv 2)) a_nil) (fun _ => rfl) B.range) (g_name 3 (fun _ => pg_name (i := 3) S.nd rfl (by first | exact .inl rfl | exact .inr rfl))) ts_nil (e_callP (RX := (fun _ _ => False)) 0 O__law_item (by decide) G__law_item F__law_item.kp (F__law_item.bindsN fun _ _ _ _ _ _ us hl => match us, hl with | [_, _], _ => rfl) (fun _ _ _ _ _ _ z => z.elim) ni ht (fun _ => pv 0) (a_cons (e_var 1 (fun _ => pv 1)) a_nil) (fun _ => rfl)))) a_nil) (fun _ => rfl))), fun ds c R h => h.2⟩
theorem sc__law_table : FnScope ["pen", "field", "tall", "wide", "k"] ["pen", "field", "tall", "wide"] (defScope (top 67)) := ⟨rfl, rfl, rfl, by decide +kernel, rfl, by decide +kernel, by decide +kernel⟩
def Ok__law_table (P : Program) (w : World) (K : PySem.W.Frag) (mg : Str → Option Value) (base : Heap) (T : List (Addr × Str)) (gm : Gm) : Prop := ∃ f fd, Gd.FnG P w K mg base (L2.CX P w) 6 f fd ["pen", "field", "tall", "wide"] (spF true T (Ψ__law_table gm)) ∧ FnP K "_law_table" (top 67) f fd ∧ mg "_law_table" = some (.ref f)
theorem ok__law_table (B : Bs mg) (Sy : Sys K) (Fd : FnP K "_law_table" (top 67) f fd) (h__law_row : Ok__law_row P w K mg base T gm) (gl : mg "_law_table" = some (.ref f)) : Ok__law_table P w K mg base T gm := by
  obtain ⟨f__law_row, fd__law_row, O__law_row, F__law_row, G__law_row⟩ := h__law_row
  have S := sc__law_table
  refine ⟨f, fd, fn_of Fd S (fun ds c R RX h => by have := h.1; simp [this]) (fun cdv A outer s H E hr hG M RX hH hp ht ni hE => ?_), Fd, gl⟩
  exact ⟨_, s_one (s_ret (e_tuple B.tuple (a_cons (e_fz (l_lc (own := [("k", 4)]) (fun _ => blkOk_by (own := [("k", 4)]) (N := ["pen", "field", "tall", "wide", "k"]) (sc := defScope (top 67)) (by decide +kernel)) (fun _ => S.nd) (id_rng (a_cons (e_var 2 (fun _ => pv 2)) a_nil) (fun _ => rfl) B.range) (g_name 4 (fun _ => pg_name (i := 4) S.nd rfl (by first | exact .inl rfl | exact .inr rfl))) ts_nil (e_callP (RX := (fun _ _ => False)) 0 O__law_row (by decide) G__law_row F__law_row.kp (F__law_row.bindsN fun _ _ _ _ _ _ us hl => match us, hl with | [_, _, _], _ => rfl) (fun _ _ _ _ _ _ z => z.elim) ni ht (fun _ => pv 0) (a_cons (e_var 1 (fun _ => pv 1)) (a_cons (e_var 3 (fun _ => pv 3)) a_nil)) (fun _ => rfl)))) a_nil) (fun _ => rfl))), fun ds c R h => h.2⟩
theorem sc__law_widths : FnScope ["pen", "many", "most", "total", "found", "k"] ["pen", "many", "most", "total"] (defScope (top 68)) := ⟨rfl, rfl, rfl, by decide +kernel, rfl, by decide +kernel, by decide +kernel⟩
def Ok__law_widths (P : Program) (w : World) (K : PySem.W.Frag) (mg : Str → Option Value) (base : Heap) (T : List (Addr × Str)) (gm : Gm) : Prop := ∃ f fd, Gd.FnG P w K mg base (L2.CX P w) 2 f fd ["pen", "many", "most", "total"] (spF true T (Ψ__law_widths gm)) ∧ FnP K "_law_widths" (top 68) f fd ∧ mg "_law_widths" = some (.ref f)
theorem ok__law_widths (B : Bs mg) (Sy : Sys K) (Fd : FnP K "_law_widths" (top 68) f fd) (h__law_draw : Ok__law_draw P w K mg base T gm) (gl : mg "_law_widths" = some (.ref f)) : Ok__law_widths P w K mg base T gm := by
  obtain ⟨f__law_draw, fd__law_draw, O__law_draw, F__law_draw, G__law_draw⟩ := h__law_draw
  have S := sc__law_widths
  refine ⟨f, fd, fn_of Fd S (fun ds c R RX h => by have := h.1; simp [this]) (fun cdv A outer s H E hr hG M RX hH hp ht ni hE => ?_), Fd, gl⟩
  exact ⟨_, s_cons (s_ownR (fun t h j => ps_set (i := 4) S.nd rfl (by first | exact .inl rfl | exact .inr rfl) (h j)) (l_lst a_nil)) (s_cons (s_for (fun _ => body_own) (id_rng (a_cons (e_var 1 (fun _ => pv 1)) a_nil) (fun _ => rfl) B.range) (g_name 5 (fun _ => pg_name (i := 5) S.nd rfl (by first | exact .inl rfl | exact .inr rfl))) (s_one (s_append 4 (fun _ => pv 4) (e_min2 B.min (a_cons (e_callP (RX := RX) 0 O__law_draw (by decide) G__law_draw F__law_draw.kp (F__law_draw.bindsN fun _ _ _ _ _ _ us hl => match us, hl with | [_, _], _ => rfl) hE ni ht (fun _ => pv 0) (a_cons (e_addX (e_var 2 (fun _ => pv 2)) (e_int)) a_nil) (fun _ => rfl)) (a_cons (e_sub (e_var 3 (fun _ => pv 3)) (e_sumO B.sum 4 (fun _ => pv 4) (fun _ => rfl))) a_nil)) (fun _ => rfl))))) (s_frz 4 (s_one (s_ret (e_tuple B.tuple (a_cons (e_var 4 (fun _ => pv 4)) a_nil) (fun _ => rfl)))))), fun ds c R h => h.2⟩
theorem sc__law_rooms : FnScope ["pen", "field", "most", "total", "many", "widths", "ties", "lap", "i", "j", "tall"] ["pen", "field", "most", "total", "many"] (defScope (top 69)) := ⟨rfl, rfl, rfl, by decide +kernel, rfl, by decide +kernel, by decide +kernel⟩
def Ok__law_rooms (P : Program) (w : World) (K : PySem.W.Frag) (mg : Str → Option Value) (base : Heap) (T : List (Addr × Str)) (gm : Gm) : Prop := ∃ f fd, Gd.FnG P w K mg base (L2.CX P w) 7 f fd ["pen", "field", "most", "total", "many"] (spF true T (Ψ__law_rooms gm)) ∧ FnP K "_law_rooms" (top 69) f fd ∧ mg "_law_rooms" = some (.ref f)
theorem ok__law_rooms (B : Bs mg) (Sy : Sys K) (Fd : FnP K "_law_rooms" (top 69) f fd) (h__law_widths : Ok__law_widths P w K mg base T gm) (h__law_draw : Ok__law_draw P w K mg base T gm) (h__law_shuffled : Ok__law_shuffled P w K mg base T gm) (h__law_pick : Ok__law_pick P w K mg base T gm) (h__law_table : Ok__law_table P w K mg base T gm) (gl : mg "_law_rooms" = some (.ref f)) : Ok__law_rooms P w K mg base T gm := by
  obtain ⟨f__law_widths, fd__law_widths, O__law_widths, F__law_widths, G__law_widths⟩ := h__law_widths
  obtain ⟨f__law_draw, fd__law_draw, O__law_draw, F__law_draw, G__law_draw⟩ := h__law_draw
  obtain ⟨f__law_shuffled, fd__law_shuffled, O__law_shuffled, F__law_shuffled, G__law_shuffled⟩ := h__law_shuffled
  obtain ⟨f__law_pick, fd__law_pick, O__law_pick, F__law_pick, G__law_pick⟩ := h__law_pick
  obtain ⟨f__law_table, fd__law_table, O__law_table, F__law_table, G__law_table⟩ := h__law_table
  have S := sc__law_rooms
  refine ⟨f, fd, fn_of Fd S (fun ds c R RX h => by have := h.1; simp [this]) (fun cdv A outer s H E hr hG M RX hH hp ht ni hE => ?_), Fd, gl⟩
  exact ⟨_, s_cons (s_setR (fun t h j => ps_set (i := 5) S.nd rfl (by first | exact .inl rfl | exact .inr rfl) (h j)) (e_callP (RX := RX) 0 O__law_widths (by decide) G__law_widths F__law_widths.kp (F__law_widths.bindsN fun _ _ _ _ _ _ us hl => match us, hl with | [_, _, _, _], _ => rfl) hE ni ht (fun _ => pv 0) (a_cons (e_addX (e_int) (e_callP (RX := RX) 0 O__law_draw (by decide) G__law_draw F__law_draw.kp (F__law_draw.bindsN fun _ _ _ _ _ _ us hl => match us, hl with | [_, _], _ => rfl) hE ni ht (fun _ => pv 0) (a_cons (e_var 2 (fun _ => pv 2)) a_nil) (fun _ => rfl))) (a_cons (e_int) (a_cons (e_var 3 (fun _ => pv 3)) a_nil))) (fun _ => rfl))) (s_cons (s_ownR (fun t h j => ps_set (i := 6) S.nd rfl (by first | exact .inl rfl | exact .inr rfl) (h j)) (l_lst a_nil)) (s_cons (s_if (tc c_gt (e_len B.len (a_cons (e_var 5 (fun _ => pv 5)) a_nil) (fun _ => rfl)) (e_int) (nomark _)) (s_one (s_for (fun _ => body_own) (id_rng (a_cons (e_callP (RX := RX) 0 O__law_draw (by decide) G__law_draw F__law_draw.kp (F__law_draw.bindsN fun _ _ _ _ _ _ us hl => match us, hl with | [_, _], _ => rfl) hE ni ht (fun _ => pv 0) (a_cons (e_addX (e_var 4 (fun _ => pv 4)) (e_int)) a_nil) (fun _ => rfl)) a_nil) (fun _ => rfl) B.range) (g_name 7 (fun _ => pg_name (i := 7) S.nd rfl (by first | exact .inl rfl | exact .inr rfl))) (s_cons (s_asg (e_cut (e_callP (RX := RX) 0 O__law_shuffled (by decide) G__law_shuffled F__law_shuffled.kp (F__law_shuffled.bindsN fun _ _ _ _ _ _ us hl => match us, hl with | [_, _], _ => rfl) hE ni ht (fun _ => pv 0) (a_cons (e_fz (l_lrange B.list B.range (e_len B.len (a_cons (e_var 5 (fun _ => pv 5)) a_nil) (fun _ => rfl)) (fun _ => rfl) (fun _ => rfl))) a_nil) (fun _ => rfl)) o_none (o_some (e_int))) (g_unl 2 (gs_cons (g_name 8 (fun _ => pg_name (i := 8) S.nd rfl (by first | exact .inl rfl | exact .inr rfl))) (gs_cons (g_name 9 (fun _ => pg_name (i := 9) S.nd rfl (by first | exact .inl rfl | exact .inr rfl))) gs_nil)))) (s_cons (s_setR (fun t h j => ps_set (i := 10) S.nd rfl (by first | exact .inl rfl | exact .inr rfl) (h j)) (e_callP (RX := RX) 0 O__law_pick (by decide) G__law_pick F__law_pick.kp (F__law_pick.bindsN fun _ _ _ _ _ _ us hl => match us, hl with | [_, _], _ => rfl) hE ni ht (fun _ => pv 0) (a_cons (e_fz (l_lst (a_cons (e_int) (a_cons (e_int) (a_cons (e_int) (a_cons (e_int) (a_cons (e_int) (a_cons (e_int) (a_cons (e_int) a_nil))))))))) a_nil) (fun _ => rfl))) (s_one (s_append 6 (fun _ => pv 6) (e_tup (a_cons (e_var 8 (fun _ => pv 8)) (a_cons (e_var 9 (fun _ => pv 9)) (a_cons (e_callP (RX := RX) 0 O__law_table (by decide) G__law_table F__law_table.kp (F__law_table.bindsN fun _ _ _ _ _ _ us hl => match us, hl with | [_, _, _, _], _ => rfl) hE ni ht (fun _ => pv 0) (a_cons (e_var 1 (fun _ => pv 1)) (a_cons (e_var 10 (fun _ => pv 10)) (a_cons (e_ix (e_var 5 (fun _ => pv 5)) (e_var 8 (fun _ => pv 8))) a_nil))) (fun _ => rfl)) (a_cons (e_callP (RX := RX) 0 O__law_table (by decide) G__law_table F__law_table.kp (F__law_table.bindsN fun _ _ _ _ _ _ us hl => match us, hl with | [_, _, _, _], _ => rfl) hE ni ht (fun _ => pv 0) (a_cons (e_var 1 (fun _ => pv 1)) (a_cons (e_var 10 (fun _ => pv 10)) (a_cons (e_ix (e_var 5 (fun _ => pv 5)) (e_var 9 (fun _ => pv 9))) a_nil))) (fun _ => rfl)) a_nil))))))))))) (s_nil)) (s_frz 6 (s_one (s_ret (e_tup (a_cons (e_var 5 (fun _ => pv 5)) (a_cons (e_tuple B.tuple (a_cons (e_var 6 (fun _ => pv 6)) a_nil) (fun _ => rfl)) a_nil)))))))), fun ds c R h => h.2⟩
theorem sc__law_are_due : FnScope ["tries", "work", "due"] ["tries"] (defScope (top 71)) := ⟨rfl, rfl, rfl, by decide +kernel, rfl, by decide +kernel, by decide +kernel⟩
def Ok__law_are_due (P : Program) (w : World) (K : PySem.W.Frag) (mg : Str → Option Value) (base : Heap) (T : List (Addr × Str)) (gm : Gm) : Prop := ∃ f fd, Gd.FnG P w K mg base (L2.CX P w) 41 f fd ["tries"] (spF false [] (Ψ__law_are_due gm)) ∧ FnP K "_law_are_due" (top 71) f fd ∧ mg "_law_are_due" = some (.ref f)
theorem ok__law_are_due (B : Bs mg) (Sy : Sys K) (Fd : FnP K "_law_are_due" (top 71) f fd) (h__law_fault : Ok__law_fault P w K mg base T gm) (gl : mg "_law_are_due" = some (.ref f)) : Ok__law_are_due P w K mg base T gm := by
  obtain ⟨f__law_fault, fd__law_fault, O__law_fault, F__law_fault, G__law_fault, O0__law_fault⟩ := h__law_fault
  have S := sc__law_are_due
  refine ⟨f, fd, fn_of Fd S (fun ds c R RX h => by have := h.1; simp [this]) (fun cdv A outer s H E hr hG M RX hH hp ht ni hE => ?_), Fd, gl⟩
  exact ⟨_, s_one (s_ret (e_all B.all (a_cons (e_fz (l_lc (own := [("work", 1), ("due", 2)]) (fun _ => blkOk_by (own := [("work", 1), ("due", 2)]) (N := ["tries", "work", "due"]) (sc := defScope (top 71)) (by decide +kernel)) (fun _ => S.nd) (id_seq2 (e_var 0 (fun _ => pv 0))) (g_tup 2 (gs_cons (g_name 1 (fun _ => pg_name (i := 1) S.nd rfl (by first | exact .inl rfl | exact .inr rfl))) (gs_cons (g_name 2 (fun _ => pg_name (i := 2) S.nd rfl (by first | exact .inl rfl | exact .inr rfl))) gs_nil))) ts_nil (ec c_eq (e_repr Sy (by decide) B.repr (a_cons (e_call (RX := (fun _ _ => False)) O__law_fault (by decide) G__law_fault F__law_fault.kp (F__law_fault.bindsN fun _ _ _ _ _ _ us hl => match us, hl with | [_], _ => rfl) (fun _ _ _ _ _ _ z => z.elim) ni (a_cons (e_var 1 (fun _ => pv 1)) a_nil) (fun _ => rfl)) a_nil) (fun _ => rfl)) (e_repr Sy (by decide) B.repr (a_cons (e_var 2 (fun _ => pv 2)) a_nil) (fun _ => rfl)) (nomark _)))) a_nil) (fun _ => rfl))), fun ds c R h => h.2⟩
theorem sc__law_plain_web : FnScope ["pen", "most", "ties", "places", "found", "lap"] ["pen", "most", "ties"] (defScope (top 72)) := ⟨rfl, rfl, rfl, by decide +kernel, rfl, by decide +kernel, by decide +kernel⟩
def Ok__law_plain_web (P : Program) (w : World) (K : PySem.W.Frag) (mg : Str → Option Value) (base : Heap) (T : List (Addr × Str)) (gm : Gm) : Prop := ∃ f fd, Gd.FnG P w K mg base (L2.CX P w) 3 f fd ["pen", "most", "ties"] (spF true T (Ψ__law_plain_web gm)) ∧ FnP K "_law_plain_web" (top 72) f fd ∧ mg "_law_plain_web" = some (.ref f)
theorem ok__law_plain_web (B : Bs mg) (Sy : Sys K) (Fd : FnP K "_law_plain_web" (top 72) f fd) (h__law_draw : Ok__law_draw P w K mg base T gm) (h__law_shuffled : Ok__law_shuffled P w K mg base T gm) (gl : mg "_law_plain_web" = some (.ref f)) : Ok__law_plain_web P w K mg base T gm := by
  obtain ⟨f__law_draw, fd__law_draw, O__law_draw, F__law_draw, G__law_draw⟩ := h__law_draw
  obtain ⟨f__law_shuffled, fd__law_shuffled, O__law_shuffled, F__law_shuffled, G__law_shuffled⟩ := h__law_shuffled
  have S := sc__law_plain_web
  refine ⟨f, fd, fn_of Fd S (fun ds c R RX h => by have := h.1; simp [this]) (fun cdv A outer s H E hr hG M RX hH hp ht ni hE => ?_), Fd, gl⟩
  exact ⟨_, s_cons (s_setR (fun t h j => ps_set (i := 3) S.nd rfl (by first | exact .inl rfl | exact .inr rfl) (h j)) (e_addX (e_int) (e_callP (RX := RX) 0 O__law_draw (by decide) G__law_draw F__law_draw.kp (F__law_draw.bindsN fun _ _ _ _ _ _ us hl => match us, hl with | [_, _], _ => rfl) hE ni ht (fun _ => pv 0) (a_cons (e_var 1 (fun _ => pv 1)) a_nil) (fun _ => rfl)))) (s_cons (s_ownR (fun t h j => ps_set (i := 4) S.nd rfl (by first | exact .inl rfl | exact .inr rfl) (h j)) (l_lst a_nil)) (s_cons (s_if (tc c_gt (e_var 3 (fun _ => pv 3)) (e_int) (nomark _)) (s_one (s_for (fun _ => body_own) (id_rng (a_cons (e_callP (RX := RX) 0 O__law_draw (by decide) G__law_draw F__law_draw.kp (F__law_draw.bindsN fun _ _ _ _ _ _ us hl => match us, hl with | [_, _], _ => rfl) hE ni ht (fun _ => pv 0) (a_cons (e_addX (e_var 2 (fun _ => pv 2)) (e_int)) a_nil) (fun _ => rfl)) a_nil) (fun _ => rfl) B.range) (g_name 5 (fun _ => pg_name (i := 5) S.nd rfl (by first | exact .inl rfl | exact .inr rfl))) (s_one (s_append 4 (fun _ => pv 4) (e_tuple B.tuple (a_cons (e_cut (e_callP (RX := RX) 0 O__law_shuffled (by decide) G__law_shuffled F__law_shuffled.kp (F__law_shuffled.bindsN fun _ _ _ _ _ _ us hl => match us, hl with | [_, _], _ => rfl) hE ni ht (fun _ => pv 0) (a_cons (e_fz (l_lrange B.list B.range (e_var 3 (fun _ => pv 3)) (fun _ => rfl) (fun _ => rfl))) a_nil) (fun _ => rfl)) o_none (o_some (e_int))) a_nil) (fun _ => rfl)))))) (s_nil)) (s_frz 4 (s_one (s_ret (e_tup (a_cons (e_var 3 (fun _ => pv 3)) (a_cons (e_tuple B.tuple (a_cons (e_var 4 (fun _ => pv 4)) a_nil) (fun _ => rfl)) a_nil)))))))), fun ds c R h => h.2⟩
theorem sc__law_is_way : FnScope ["above", "below", "thing", "names", "ends", "name", "tie", "end", "pair"] ["above", "below", "thing"] (defScope (top 73)) := ⟨rfl, rfl, rfl, by decide +kernel, rfl, by decide +kernel, by decide +kernel⟩
def Ok__law_is_way (P : Program) (w : World) (K : PySem.W.Frag) (mg : Str → Option Value) (base : Heap) (T : List (Addr × Str)) (gm : Gm) : Prop := ∃ f fd, Gd.FnG P w K mg base (L2.CX P w) 2 f fd ["above", "below", "thing"] (spF false [] (Ψ__law_is_way gm)) ∧ FnP K "_law_is_way" (top 73) f fd ∧ mg "_law_is_way" = some (.ref f)
theorem ok__law_is_way (B : Bs mg) (Sy : Sys K) (Fd : FnP K "_law_is_way" (top 73) f fd) (h__law_is_int : Ok__law_is_int P w K mg base T gm) (gl : mg "_law_is_way" = some (.ref f)) : Ok__law_is_way P w K mg base T gm := by
  obtain ⟨f__law_is_int, fd__law_is_int, O__law_is_int, F__law_is_int, G__law_is_int⟩ := h__law_is_int
  have S := sc__law_is_way
  refine ⟨f, fd, fn_of Fd S (fun ds c R RX h => by have := h.1; simp [this]) (fun cdv A outer s H E hr hG M RX hH hp ht ni hE => ?_), Fd, gl⟩
  exact ⟨_, s_cons (s_if (t_w (w_or (t_not (t_val (e_isi B.isinstance (a_cons (e_var 2 (fun _ => pv 2)) (a_cons (e_ty B.tuple boot_tup (fun _ => rfl)) a_nil)) (fun _ => rfl)))) (w_or (tc c_ne (e_len B.len (a_cons (e_var 2 (fun _ => pv 2)) a_nil) (fun _ => rfl)) (e_int) (nomark _)) (w_or (t_not (t_val (e_isi B.isinstance (a_cons (e_ix (e_var 2 (fun _ => pv 2)) (e_int)) (a_cons (e_ty B.tuple boot_tup (fun _ => rfl)) a_nil)) (fun _ => rfl)))) (w_or1 (t_not (t_val (e_isi B.isinstance (a_cons (e_ix (e_var 2 (fun _ => pv 2)) (e_int)) (a_cons (e_ty B.tuple boot_tup (fun _ => rfl)) a_nil)) (fun _ => rfl))))))))) (s_one (s_ret (e_bl))) (s_nil)) (s_cons (s_asg (e_var 2 (fun _ => pv 2)) (g_tup 2 (gs_cons (g_name 3 (fun _ => pg_name (i := 3) S.nd rfl (by first | exact .inl rfl | exact .inr rfl))) (gs_cons (g_name 4 (fun _ => pg_name (i := 4) S.nd rfl (by first | exact .inl rfl | exact .inr rfl))) gs_nil)))) (s_cons (s_if (t_w (w_or (tc c_ne (e_len B.len (a_cons (e_var 3 (fun _ => pv 3)) a_nil) (fun _ => rfl)) (e_ix (e_var 0 (fun _ => pv 0)) (e_int)) (nomark _)) (w_or (t_not (t_val (e_all B.all (a_cons (e_fz (l_lc (own := [("name", 5)]) (fun _ => blkOk_by (own := [("name", 5)]) (N := ["above", "below", "thing", "names", "ends", "name", "tie", "end", "pair"]) (sc := defScope (top 73)) (by decide +kernel)) (fun _ => S.nd) (id_seq2 (e_var 3 (fun _ => pv 3))) (g_name 5 (fun _ => pg_name (i := 5) S.nd rfl (by first | exact .inl rfl | exact .inr rfl))) ts_nil ((e_and (e_call (RX := (fun _ _ => False)) O__law_is_int (by decide) G__law_is_int F__law_is_int.kp (F__law_is_int.bindsN fun _ _ _ _ _ _ us hl => match us, hl with | [_], _ => rfl) (fun _ _ _ _ _ _ z => z.elim) ni (a_cons (e_var 5 (fun _ => pv 5)) a_nil) (fun _ => rfl)) (e_one (e_chain (fun _ => op_le) (fun _ => op_lt) (e_int) (e_var 5 (fun _ => pv 5)) (e_ix (e_var 1 (fun _ => pv 1)) (e_int)))))))) a_nil) (fun _ => rfl)))) (w_or1 (tc c_ne (e_len B.len (a_cons (e_var 4 (fun _ => pv 4)) a_nil) (fun _ => rfl)) (e_len B.len (a_cons (e_ix (e_var 0 (fun _ => pv 0)) (e_int)) a_nil) (fun _ => rfl)) (nomark _)))))) (s_one (s_ret (e_bl))) (s_nil)) (s_cons (s_for (fun _ => body_own) (id_zipX (a_cons (e_ix (e_var 0 (fun _ => pv 0)) (e_int)) (a_cons (e_var 4 (fun _ => pv 4)) a_nil)) (fun _ => rfl) B.zip) (g_tup 2 (gs_cons (g_name 6 (fun _ => pg_name (i := 6) S.nd rfl (by first | exact .inl rfl | exact .inr rfl))) (gs_cons (g_name 7 (fun _ => pg_name (i := 7) S.nd rfl (by first | exact .inl rfl | exact .inr rfl))) gs_nil))) (s_cons (s_if (t_w (w_or (t_not (t_val (e_isi B.isinstance (a_cons (e_var 7 (fun _ => pv 7)) (a_cons (e_ty B.tuple boot_tup (fun _ => rfl)) a_nil)) (fun _ => rfl)))) (w_or (tc c_ne (e_len B.len (a_cons (e_var 7 (fun _ => pv 7)) a_nil) (fun _ => rfl)) (e_int) (nomark _)) (w_or (t_not (t_val (e_call (RX := RX) O__law_is_int (by decide) G__law_is_int F__law_is_int.kp (F__law_is_int.bindsN fun _ _ _ _ _ _ us hl => match us, hl with | [_], _ => rfl) hE ni (a_cons (e_ix (e_var 7 (fun _ => pv 7)) (e_int)) a_nil) (fun _ => rfl)))) (w_or1 (t_not (t_val (e_isi B.isinstance (a_cons (e_ix (e_var 7 (fun _ => pv 7)) (e_int)) (a_cons (e_ty B.bool boot_boolD (fun _ => rfl)) a_nil)) (fun _ => rfl))))))))) (s_one (s_ret (e_bl))) (s_nil)) (s_cons (s_if (t_not (t_chain (fun _ => op_le) (fun _ => op_lt) (e_int) (e_ix (e_var 7 (fun _ => pv 7)) (e_int)) (e_len B.len (a_cons (e_ix (e_var 1 (fun _ => pv 1)) (e_int)) a_nil) (fun _ => rfl)))) (s_one (s_ret (e_bl))) (s_nil)) (s_cons (s_setR (fun t h j => ps_set (i := 8) S.nd rfl (by first | exact .inl rfl | exact .inr rfl) (h j)) (e_if (t_val (e_ix (e_var 7 (fun _ => pv 7)) (e_int))) (e_tup (a_cons (e_ix (e_var 3 (fun _ => pv 3)) (e_ix (e_var 6 (fun _ => pv 6)) (e_int))) (a_cons (e_ix (e_var 3 (fun _ => pv 3)) (e_ix (e_var 6 (fun _ => pv 6)) (e_int))) a_nil))) (e_tup (a_cons (e_ix (e_var 3 (fun _ => pv 3)) (e_ix (e_var 6 (fun _ => pv 6)) (e_int))) (a_cons (e_ix (e_var 3 (fun _ => pv 3)) (e_ix (e_var 6 (fun _ => pv 6)) (e_int))) a_nil))))) (s_one (s_if (tc c_ne (e_ix (e_ix (e_var 1 (fun _ => pv 1)) (e_int)) (e_ix (e_var 7 (fun _ => pv 7)) (e_int))) (e_var 8 (fun _ => pv 8)) (nomark _)) (s_one (s_ret (e_bl))) (s_nil))))))) (s_one (s_ret (e_bl)))))), fun ds c R h => h.2⟩
theorem sc__law_upon : FnScope ["pen", "below", "most", "many", "names", "k", "ties", "ends", "lap", "t", "turn", "first", "second"] ["pen", "below", "most", "many"] (defScope (top 74)) := ⟨rfl, rfl, rfl, by decide +kernel, rfl, by decide +kernel, by decide +kernel⟩
def Ok__law_upon (P : Program) (w : World) (K : PySem.W.Frag) (mg : Str → Option Value) (base : Heap) (T : List (Addr × Str)) (gm : Gm) : Prop := ∃ f fd, Gd.FnG P w K mg base (L2.CX P w) 3 f fd ["pen", "below", "most", "many"] (spF true T (Ψ__law_upon gm)) ∧ FnP K "_law_upon" (top 74) f fd ∧ mg "_law_upon" = some (.ref f)
theorem ok__law_upon (B : Bs mg) (Sy : Sys K) (Fd : FnP K "_law_upon" (top 74) f fd) (h__law_draw : Ok__law_draw P w K mg base T gm) (h__law_pick : Ok__law_pick P w K mg base T gm) (gl : mg "_law_upon" = some (.ref f)) : Ok__law_upon P w K mg base T gm := by
  obtain ⟨f__law_draw, fd__law_draw, O__law_draw, F__law_draw, G__law_draw⟩ := h__law_draw
  obtain ⟨f__law_pick, fd__law_pick, O__law_pick, F__law_pick, G__law_pick⟩ := h__law_pick
  have S := sc__law_upon
  refine ⟨f, fd, fn_of Fd S (fun ds c R RX h => by have := h.1; simp [this]) (fun cdv A outer s H E hr hG M RX hH hp ht ni hE => ?_), Fd, gl⟩
  exact ⟨_, s_cons (s_setR (fun t h j => ps_set (i := 4) S.nd rfl (by first | exact .inl rfl | exact .inr rfl) (h j)) (e_tuple B.tuple (a_cons (e_fz (l_lc (own := [("k", 5)]) (fun _ => blkOk_by (own := [("k", 5)]) (N := ["pen", "below", "most", "many", "names", "k", "ties", "ends", "lap", "t", "turn", "first", "second"]) (sc := defScope (top 74)) (by decide +kernel)) (fun _ => S.nd) (id_rng (a_cons (e_addX (e_int) (e_callP (RX := RX) 0 O__law_draw (by decide) G__law_draw F__law_draw.kp (F__law_draw.bindsN fun _ _ _ _ _ _ us hl => match us, hl with | [_, _], _ => rfl) hE ni ht (fun _ => pv 0) (a_cons (e_var 2 (fun _ => pv 2)) a_nil) (fun _ => rfl))) a_nil) (fun _ => rfl) B.range) (g_name 5 (fun _ => pg_name (i := 5) S.nd rfl (by first | exact .inl rfl | exact .inr rfl))) ts_nil (e_callP (RX := (fun _ _ => False)) 0 O__law_draw (by decide) G__law_draw F__law_draw.kp (F__law_draw.bindsN fun _ _ _ _ _ _ us hl => match us, hl with | [_, _], _ => rfl) (fun _ _ _ _ _ _ z => z.elim) ni ht (fun _ => pv 0) (a_cons (e_ix (e_var 1 (fun _ => pv 1)) (e_int)) a_nil) (fun _ => rfl)))) a_nil) (fun _ => rfl))) (s_cons (s_parR (i := 6) (j := 7) (by decide) (fun t u h1 h2 q => ps_par (i := 6) (j := 7) rfl S.nd rfl rfl (by decide) rfl rfl (pa_cons (h1 q) (pa_cons (h2 q) pa_nil)) rfl) (p_own (l_lst a_nil)) (p_own (l_lst a_nil))) (s_cons (s_for (fun _ => body_own) (id_rng (a_cons (e_callP (RX := RX) 0 O__law_draw (by decide) G__law_draw F__law_draw.kp (F__law_draw.bindsN fun _ _ _ _ _ _ us hl => match us, hl with | [_, _], _ => rfl) hE ni ht (fun _ => pv 0) (a_cons (e_addX (e_var 3 (fun _ => pv 3)) (e_int)) a_nil) (fun _ => rfl)) a_nil) (fun _ => rfl) B.range) (g_name 8 (fun _ => pg_name (i := 8) S.nd rfl (by first | exact .inl rfl | exact .inr rfl))) (s_cons (s_if (tc c_eq (e_ix (e_var 1 (fun _ => pv 1)) (e_int)) (e_tup a_nil) (nomark _)) (s_one (s_break)) (s_nil)) (s_cons (s_asg (e_tup (a_cons (e_callP (RX := RX) 0 O__law_draw (by decide) G__law_draw F__law_draw.kp (F__law_draw.bindsN fun _ _ _ _ _ _ us hl => match us, hl with | [_, _], _ => rfl) hE ni ht (fun _ => pv 0) (a_cons (e_len B.len (a_cons (e_ix (e_var 1 (fun _ => pv 1)) (e_int)) a_nil) (fun _ => rfl)) a_nil) (fun _ => rfl)) (a_cons (ec c_eq (e_callP (RX := RX) 0 O__law_draw (by decide) G__law_draw F__law_draw.kp (F__law_draw.bindsN fun _ _ _ _ _ _ us hl => match us, hl with | [_, _], _ => rfl) hE ni ht (fun _ => pv 0) (a_cons (e_int) a_nil) (fun _ => rfl)) (e_int) (nomark _)) a_nil))) (g_tup 2 (gs_cons (g_name 9 (fun _ => pg_name (i := 9) S.nd rfl (by first | exact .inl rfl | exact .inr rfl))) (gs_cons (g_name 10 (fun _ => pg_name (i := 10) S.nd rfl (by first | exact .inl rfl | exact .inr rfl))) gs_nil)))) (s_cons (s_setLc 11 (own := [("k", 5)]) (fun _ => rfl) (fun _ => rfl) (fun _ => rfl) (fun _ => blkOk_by (own := [("k", 5)]) (N := ["pen", "below", "most", "many", "names", "k", "ties", "ends", "lap", "t", "turn", "first", "second"]) (sc := defScope (top 74)) (by decide +kernel)) (fun _ => S.nd) (id_rng (a_cons (e_len B.len (a_cons (e_var 4 (fun _ => pv 4)) a_nil) (fun _ => rfl)) a_nil) (fun _ => rfl) B.range) (g_name 5 (fun _ => pg_name (i := 5) S.nd rfl (by first | exact .inl rfl | exact .inr rfl))) (ts_one (tc c_eq (e_ix (e_var 4 (fun _ => pv 4)) (e_var 5 (fun _ => pv 5))) (e_ix (e_ix (e_ix (e_var 1 (fun _ => pv 1)) (e_int)) (e_var 9 (fun _ => pv 9))) (e_if (t_val (e_var 10 (fun _ => pv 10))) (e_int) (e_int))) (nomark _))) (e_var 5 (fun _ => pv 5))) (s_cons (s_setLc 12 (own := [("k", 5)]) (fun _ => rfl) (fun _ => rfl) (fun _ => rfl) (fun _ => blkOk_by (own := [("k", 5)]) (N := ["pen", "below", "most", "many", "names", "k", "ties", "ends", "lap", "t", "turn", "first", "second"]) (sc := defScope (top 74)) (by decide +kernel)) (fun _ => S.nd) (id_rng (a_cons (e_len B.len (a_cons (e_var 4 (fun _ => pv 4)) a_nil) (fun _ => rfl)) a_nil) (fun _ => rfl) B.range) (g_name 5 (fun _ => pg_name (i := 5) S.nd rfl (by first | exact .inl rfl | exact .inr rfl))) (ts_one (tc c_eq (e_ix (e_var 4 (fun _ => pv 4)) (e_var 5 (fun _ => pv 5))) (e_ix (e_ix (e_ix (e_var 1 (fun _ => pv 1)) (e_int)) (e_var 9 (fun _ => pv 9))) (e_if (t_val (e_var 10 (fun _ => pv 10))) (e_int) (e_int))) (nomark _))) (e_var 5 (fun _ => pv 5))) (s_one (s_if (t_w (w_and (tc c_ne (e_var 11 (fun _ => pv 11)) (e_fz (l_lst a_nil)) (nomark _)) (w_and1 (tc c_ne (e_var 12 (fun _ => pv 12)) (e_fz (l_lst a_nil)) (nomark _))))) (s_cons (s_append 6 (fun _ => pv 6) (e_tup (a_cons (e_callP (RX := RX) 0 O__law_pick (by decide) G__law_pick F__law_pick.kp (F__law_pick.bindsN fun _ _ _ _ _ _ us hl => match us, hl with | [_, _], _ => rfl) hE ni ht (fun _ => pv 0) (a_cons (e_var 11 (fun _ => pv 11)) a_nil) (fun _ => rfl)) (a_cons (e_callP (RX := RX) 0 O__law_pick (by decide) G__law_pick F__law_pick.kp (F__law_pick.bindsN fun _ _ _ _ _ _ us hl => match us, hl with | [_, _], _ => rfl) hE ni ht (fun _ => pv 0) (a_cons (e_var 12 (fun _ => pv 12)) a_nil) (fun _ => rfl)) a_nil)))) (s_one (s_append 7 (fun _ => pv 7) (e_tup (a_cons (e_var 9 (fun _ => pv 9)) (a_cons (e_var 10 (fun _ => pv 10)) a_nil)))))) (s_nil)))))))) (s_frz 7 (s_frz 6 (s_one (s_ret (e_tup (a_cons (e_tup (a_cons (e_len B.len (a_cons (e_var 4 (fun _ => pv 4)) a_nil) (fun _ => rfl)) (a_cons (e_tuple B.tuple (a_cons (e_var 6 (fun _ => pv 6)) a_nil) (fun _ => rfl)) a_nil))) (a_cons (e_tup (a_cons (e_var 4 (fun _ => pv 4)) (a_cons (e_tuple B.tuple (a_cons (e_var 7 (fun _ => pv 7)) a_nil) (fun _ => rfl)) a_nil))) a_nil))))))))), fun ds c R h => h.2⟩
theorem sc__law_web_by : FnScope ["widths", "ties", "tie"] ["widths", "ties"] (defScope (top 75)) := ⟨rfl, rfl, rfl, by decide +kernel, rfl, by decide +kernel, by decide +kernel⟩
def Ok__law_web_by (P : Program) (w : World) (K : PySem.W.Frag) (mg : Str → Option Value) (base : Heap) (T : List (Addr × Str)) (gm : Gm) : Prop := ∃ f fd, Gd.FnG P w K mg base (L2.CX P w) 1 f fd ["widths", "ties"] (spF false [] (Ψ__law_web_by gm)) ∧ FnP K "_law_web_by" (top 75) f fd ∧ mg "_law_web_by" = some (.ref f)
theorem ok__law_web_by (B : Bs mg) (Sy : Sys K) (Fd : FnP K "_law_web_by" (top 75) f fd) (gl : mg "_law_web_by" = some (.ref f)) : Ok__law_web_by P w K mg base T gm := by
  have S := sc__law_web_by
  refine ⟨f, fd, fn_of Fd S (fun ds c R RX h => by have := h.1; simp [this]) (fun cdv A outer s H E hr hG M RX hH hp ht ni hE => ?_), Fd, gl⟩
  exact ⟨_, s_one (s_ret (e_tup (a_cons (e_len B.len (a_cons (e_var 0 (fun _ => pv 0)) a_nil) (fun _ => rfl)) (a_cons (e_tuple B.tuple (a_cons (e_fz (l_lc (own := [("tie", 2)]) (fun _ => blkOk_by (own := [("tie", 2)]) (N := ["widths", "ties", "tie"]) (sc := defScope (top 75)) (by decide +kernel)) (fun _ => S.nd) (id_seq2 (e_var 1 (fun _ => pv 1))) (g_name 2 (fun _ => pg_name (i := 2) S.nd rfl (by first | exact .inl rfl | exact .inr rfl))) ts_nil (e_cut (e_var 2 (fun _ => pv 2)) o_none (o_some (e_int))))) a_nil) (fun _ => rfl)) a_nil)))), fun ds c R h => h.2⟩
theorem sc__law_covers : FnScope ["above", "below", "way", "place", "t", "side", "count", "tie", "end"] ["above", "below", "way"] (defScope (top 76)) := ⟨rfl, rfl, rfl, by decide +kernel, rfl, by decide +kernel, by decide +kernel⟩
def Ok__law_covers (P : Program) (w : World) (K : PySem.W.Frag) (mg : Str → Option Value) (base : Heap) (T : List (Addr × Str)) (gm : Gm) : Prop := ∃ f fd, Gd.FnG P w K mg base (L2.CX P w) 1 f fd ["above", "below", "way"] (spF false [] (Ψ__law_covers gm)) ∧ FnP K "_law_covers" (top 76) f fd ∧ mg "_law_covers" = some (.ref f)
theorem ok__law_covers (B : Bs mg) (Sy : Sys K) (Fd : FnP K "_law_covers" (top 76) f fd) (gl : mg "_law_covers" = some (.ref f)) : Ok__law_covers P w K mg base T gm := by
  have S := sc__law_covers
  refine ⟨f, fd, fn_of Fd S (fun ds c R RX h => by have := h.1; simp [this]) (fun cdv A outer s H E hr hG M RX hH hp ht ni hE => ?_), Fd, gl⟩
  exact ⟨_, s_cons (s_for (fun _ => body_own) (id_rng (a_cons (e_ix (e_var 0 (fun _ => pv 0)) (e_int)) a_nil) (fun _ => rfl) B.range) (g_name 3 (fun _ => pg_name (i := 3) S.nd rfl (by first | exact .inl rfl | exact .inr rfl))) (s_one (s_for (fun _ => body_own) (id_rng (a_cons (e_len B.len (a_cons (e_ix (e_var 1 (fun _ => pv 1)) (e_int)) a_nil) (fun _ => rfl)) a_nil) (fun _ => rfl) B.range) (g_name 4 (fun _ => pg_name (i := 4) S.nd rfl (by first | exact .inl rfl | exact .inr rfl))) (s_one (s_for (fun _ => body_own) (id_seq2 (e_tup (a_cons (e_int) (a_cons (e_int) a_nil)))) (g_name 5 (fun _ => pg_name (i := 5) S.nd rfl (by first | exact .inl rfl | exact .inr rfl))) (s_cons (s_if (tc c_ne (e_ix (e_ix (e_ix (e_var 1 (fun _ => pv 1)) (e_int)) (e_var 4 (fun _ => pv 4))) (e_var 5 (fun _ => pv 5))) (e_ix (e_ix (e_var 2 (fun _ => pv 2)) (e_int)) (e_var 3 (fun _ => pv 3))) (nomark _)) (s_one (s_cont)) (s_nil)) (s_cons (s_setR (fun t h j => ps_set (i := 6) S.nd rfl (by first | exact .inl rfl | exact .inr rfl) (h j)) (e_int)) (s_cons (s_for (fun _ => body_own) (id_zipX (a_cons (e_ix (e_var 0 (fun _ => pv 0)) (e_int)) (a_cons (e_ix (e_var 2 (fun _ => pv 2)) (e_int)) a_nil)) (fun _ => rfl) B.zip) (g_tup 2 (gs_cons (g_name 7 (fun _ => pg_name (i := 7) S.nd rfl (by first | exact .inl rfl | exact .inr rfl))) (gs_cons (g_name 8 (fun _ => pg_name (i := 8) S.nd rfl (by first | exact .inl rfl | exact .inr rfl))) gs_nil))) (s_one (s_if (t_w (w_and (tc c_eq (e_ix (e_var 8 (fun _ => pv 8)) (e_int)) (e_var 4 (fun _ => pv 4)) (nomark _)) (w_and1 (tc c_eq (e_ix (e_var 7 (fun _ => pv 7)) (e_if (t_val (e_ix (e_var 8 (fun _ => pv 8)) (e_int))) (e_sub (e_int) (e_var 5 (fun _ => pv 5))) (e_var 5 (fun _ => pv 5)))) (e_var 3 (fun _ => pv 3)) (nomark _))))) (s_one (s_setR (fun t h j => ps_set (i := 6) S.nd rfl (by first | exact .inl rfl | exact .inr rfl) (h j)) (e_addX (e_var 6 (fun _ => pv 6)) (e_int)))) (s_nil)))) (s_one (s_if (tc c_ne (e_var 6 (fun _ => pv 6)) (e_int) (nomark _)) (s_one (s_ret (e_bl))) (s_nil))))))))))) (s_one (s_ret (e_bl))), fun ds c R h => h.2⟩
theorem sc__law_wrong : FnScope ["pen", "way", "below", "names", "ends", "k", "found", "item", "n", "t", "turn", "end"] ["pen", "way", "below"] (defScope (top 77)) := ⟨rfl, rfl, rfl, by decide +kernel, rfl, by decide +kernel, by decide +kernel⟩
def Ok__law_wrong (P : Program) (w : World) (K : PySem.W.Frag) (mg : Str → Option Value) (base : Heap) (T : List (Addr × Str)) (gm : Gm) : Prop := ∃ f fd, Gd.FnG P w K mg base (L2.CX P w) 2 f fd ["pen", "way", "below"] (spF true T (Ψ__law_wrong gm)) ∧ FnP K "_law_wrong" (top 77) f fd ∧ mg "_law_wrong" = some (.ref f)
theorem ok__law_wrong (B : Bs mg) (Sy : Sys K) (Fd : FnP K "_law_wrong" (top 77) f fd) (h__law_draw : Ok__law_draw P w K mg base T gm) (gl : mg "_law_wrong" = some (.ref f)) : Ok__law_wrong P w K mg base T gm := by
  obtain ⟨f__law_draw, fd__law_draw, O__law_draw, F__law_draw, G__law_draw⟩ := h__law_draw
  have S := sc__law_wrong
  refine ⟨f, fd, fn_of Fd S (fun ds c R RX h => by have := h.1; simp [this]) (fun cdv A outer s H E hr hG M RX hH hp ht ni hE => ?_), Fd, gl⟩
  exact ⟨_, s_cons (s_asg (e_var 1 (fun _ => pv 1)) (g_tup 2 (gs_cons (g_name 3 (fun _ => pg_name (i := 3) S.nd rfl (by first | exact .inl rfl | exact .inr rfl))) (gs_cons (g_name 4 (fun _ => pg_name (i := 4) S.nd rfl (by first | exact .inl rfl | exact .inr rfl))) gs_nil)))) (s_cons (s_setR (fun t h j => ps_set (i := 5) S.nd rfl (by first | exact .inl rfl | exact .inr rfl) (h j)) (e_callP (RX := RX) 0 O__law_draw (by decide) G__law_draw F__law_draw.kp (F__law_draw.bindsN fun _ _ _ _ _ _ us hl => match us, hl with | [_, _], _ => rfl) hE ni ht (fun _ => pv 0) (a_cons (e_len B.len (a_cons (e_var 3 (fun _ => pv 3)) a_nil) (fun _ => rfl)) a_nil) (fun _ => rfl))) (s_cons (s_ownR (fun t h j => ps_set (i := 6) S.nd rfl (by first | exact .inl rfl | exact .inr rfl) (h j)) (l_lst (a_cons (e_non) (a_cons (e_int) (a_cons (e_tup (a_cons (e_var 3 (fun _ => pv 3)) a_nil)) (a_cons (e_tup (a_cons (e_var 3 (fun _ => pv 3)) (a_cons (e_var 4 (fun _ => pv 4)) (a_cons (e_tup a_nil) a_nil)))) (a_cons (e_tup (a_cons (e_fz (l_list B.list (a_cons (e_var 3 (fun _ => pv 3)) a_nil) (fun _ => rfl))) (a_cons (e_var 4 (fun _ => pv 4)) a_nil))) (a_cons (e_tup (a_cons (e_var 3 (fun _ => pv 3)) (a_cons (e_fz (l_list B.list (a_cons (e_var 4 (fun _ => pv 4)) a_nil) (fun _ => rfl))) a_nil))) (a_cons (e_tup (a_cons (e_cut (e_var 3 (fun _ => pv 3)) (o_some (e_int)) o_none) (a_cons (e_var 4 (fun _ => pv 4)) a_nil))) (a_cons (e_tup (a_cons (e_var 3 (fun _ => pv 3)) (a_cons (e_addX (e_var 4 (fun _ => pv 4)) (e_tup (a_cons (e_tup (a_cons (e_int) (a_cons (e_bl) a_nil))) a_nil))) a_nil))) a_nil)))))))))) (s_cons (s_ownR (fun t h j => ps_set (i := 6) S.nd rfl (by first | exact .inl rfl | exact .inr rfl) (h j)) (l_addO 6 (fun _ => pv 6) (e_fz (l_lc (own := [("item", 7)]) (fun _ => blkOk_by (own := [("item", 7)]) (N := ["pen", "way", "below", "names", "ends", "k", "found", "item", "n", "t", "turn", "end"]) (sc := defScope (top 77)) (by decide +kernel)) (fun _ => S.nd) (id_seq2 (e_tup (a_cons (e_ix (e_var 2 (fun _ => pv 2)) (e_int)) (a_cons (e_neg (e_int)) (a_cons (e_bl) (a_cons (e_non) (a_cons (e_mod (e_intc B.int (a_cons (e_addX (e_ix (e_var 3 (fun _ => pv 3)) (e_var 5 (fun _ => pv 5))) (e_int)) a_nil) (fun _ => rfl)) (e_ix (e_var 2 (fun _ => pv 2)) (e_int))) a_nil))))))) (g_name 7 (fun _ => pg_name (i := 7) S.nd rfl (by first | exact .inl rfl | exact .inr rfl))) ts_nil (e_tup (a_cons (e_addX (e_addX (e_cut (e_var 3 (fun _ => pv 3)) o_none (o_some (e_var 5 (fun _ => pv 5)))) (e_tup (a_cons (e_var 7 (fun _ => pv 7)) a_nil))) (e_cut (e_var 3 (fun _ => pv 3)) (o_some (e_addX (e_var 5 (fun _ => pv 5)) (e_int))) o_none)) (a_cons (e_var 4 (fun _ => pv 4)) a_nil))))))) (s_cons (s_if (tc c_ne (e_var 4 (fun _ => pv 4)) (e_tup a_nil) (nomark _)) (s_cons (s_setR (fun t h j => ps_set (i := 8) S.nd rfl (by first | exact .inl rfl | exact .inr rfl) (h j)) (e_callP (RX := RX) 0 O__law_draw (by decide) G__law_draw F__law_draw.kp (F__law_draw.bindsN fun _ _ _ _ _ _ us hl => match us, hl with | [_, _], _ => rfl) hE ni ht (fun _ => pv 0) (a_cons (e_len B.len (a_cons (e_var 4 (fun _ => pv 4)) a_nil) (fun _ => rfl)) a_nil) (fun _ => rfl))) (s_cons (s_asg (e_ix (e_var 4 (fun _ => pv 4)) (e_var 8 (fun _ => pv 8))) (g_tup 2 (gs_cons (g_name 9 (fun _ => pg_name (i := 9) S.nd rfl (by first | exact .inl rfl | exact .inr rfl))) (gs_cons (g_name 10 (fun _ => pg_name (i := 10) S.nd rfl (by first | exact .inl rfl | exact .inr rfl))) gs_nil)))) (s_one (s_for (fun _ => body_own) (id_seq2 (e_fz (l_lst (a_cons (e_tup (a_cons (e_var 9 (fun _ => pv 9)) (a_cons (e_not (e_var 10 (fun _ => pv 10))) a_nil))) (a_cons (e_tup (a_cons (e_addX (e_var 9 (fun _ => pv 9)) (e_int)) (a_cons (e_var 10 (fun _ => pv 10)) a_nil))) (a_cons (e_tup (a_cons (e_var 9 (fun _ => pv 9)) (a_cons (e_intc B.int (a_cons (e_var 10 (fun _ => pv 10)) a_nil) (fun _ => rfl)) a_nil))) (a_cons (e_tup (a_cons (e_var 9 (fun _ => pv 9)) a_nil)) (a_cons (e_fz (l_lst (a_cons (e_var 9 (fun _ => pv 9)) (a_cons (e_var 10 (fun _ => pv 10)) a_nil)))) (a_cons (e_non) (a_cons (e_tup (a_cons (e_bl) (a_cons (e_var 10 (fun _ => pv 10)) a_nil))) a_nil)))))))))) (g_name 11 (fun _ => pg_name (i := 11) S.nd rfl (by first | exact .inl rfl | exact .inr rfl))) (s_one (s_append 6 (fun _ => pv 6) (e_tup (a_cons (e_var 3 (fun _ => pv 3)) (a_cons (e_addX (e_addX (e_cut (e_var 4 (fun _ => pv 4)) o_none (o_some (e_var 8 (fun _ => pv 8)))) (e_tup (a_cons (e_var 11 (fun _ => pv 11)) a_nil))) (e_cut (e_var 4 (fun _ => pv 4)) (o_some (e_addX (e_var 8 (fun _ => pv 8)) (e_int))) o_none)) a_nil))))))))) (s_nil)) (s_frz 6 (s_one (s_ret (e_var 6 (fun _ => pv 6))))))))), fun ds c R h => h.2⟩
theorem sc__law_case : FnScope ["pen", "low", "half", "second", "high", "first", "above", "below", "way", "handed", "tie", "value", "end", "told_v", "names", "name", "ends", "t", "turn"] ["pen"] (defScope (top 78)) := ⟨rfl, rfl, rfl, by decide +kernel, rfl, by decide +kernel, by decide +kernel⟩
def Ok__law_case (P : Program) (w : World) (K : PySem.W.Frag) (mg : Str → Option Value) (base : Heap) (T : List (Addr × Str)) (gm : Gm) : Prop := ∃ f fd, Gd.FnG P w K mg base (L2.CX P w) 15 f fd ["pen"] (spF true T (Ψ__law_case gm)) ∧ FnP K "_law_case" (top 78) f fd ∧ mg "_law_case" = some (.ref f)
theorem ok__law_case (B : Bs mg) (Sy : Sys K) (Fd : FnP K "_law_case" (top 78) f fd) (h__law_plain_web : Ok__law_plain_web P w K mg base T gm) (h__law_upon : Ok__law_upon P w K mg base T gm) (h__law_pick : Ok__law_pick P w K mg base T gm) (h__law_wrong : Ok__law_wrong P w K mg base T gm) (h_is_web_map : Ok_is_web_map P w K mg base T gm) (h__law_is_way : Ok__law_is_way P w K mg base T gm) (h_is_cover : Ok_is_cover P w K mg base T gm) (h__law_covers : Ok__law_covers P w K mg base T gm) (h_behind_web_map : Ok_behind_web_map P w K mg base T gm) (gl : mg "_law_case" = some (.ref f)) : Ok__law_case P w K mg base T gm := by
  obtain ⟨f__law_plain_web, fd__law_plain_web, O__law_plain_web, F__law_plain_web, G__law_plain_web⟩ := h__law_plain_web
  obtain ⟨f__law_upon, fd__law_upon, O__law_upon, F__law_upon, G__law_upon⟩ := h__law_upon
  obtain ⟨f__law_pick, fd__law_pick, O__law_pick, F__law_pick, G__law_pick⟩ := h__law_pick
  obtain ⟨f__law_wrong, fd__law_wrong, O__law_wrong, F__law_wrong, G__law_wrong⟩ := h__law_wrong
  obtain ⟨f_is_web_map, fd_is_web_map, O_is_web_map, F_is_web_map, G_is_web_map⟩ := h_is_web_map
  obtain ⟨f__law_is_way, fd__law_is_way, O__law_is_way, F__law_is_way, G__law_is_way⟩ := h__law_is_way
  obtain ⟨f_is_cover, fd_is_cover, O_is_cover, F_is_cover, G_is_cover⟩ := h_is_cover
  obtain ⟨f__law_covers, fd__law_covers, O__law_covers, F__law_covers, G__law_covers⟩ := h__law_covers
  obtain ⟨f_behind_web_map, fd_behind_web_map, O_behind_web_map, F_behind_web_map, G_behind_web_map⟩ := h_behind_web_map
  have S := sc__law_case
  refine ⟨f, fd, fn_of Fd S (fun ds c R RX h => by have := h.1; simp [this]) (fun cdv A outer s H E hr hG M RX hH hp ht ni hE => ?_), Fd, gl⟩
  exact ⟨_, s_cons (s_setR (fun t h j => ps_set (i := 1) S.nd rfl (by first | exact .inl rfl | exact .inr rfl) (h j)) (e_callP (RX := RX) 0 O__law_plain_web (by decide) G__law_plain_web F__law_plain_web.kp (F__law_plain_web.bindsN fun _ _ _ _ _ _ us hl => match us, hl with | [_, _, _], _ => rfl) hE ni ht (fun _ => pv 0) (a_cons (e_int) (a_cons (e_int) a_nil)) (fun _ => rfl))) (s_cons (s_asg (e_callP (RX := RX) 0 O__law_upon (by decide) G__law_upon F__law_upon.kp (F__law_upon.bindsN fun _ _ _ _ _ _ us hl => match us, hl with | [_, _, _, _], _ => rfl) hE ni ht (fun _ => pv 0) (a_cons (e_var 1 (fun _ => pv 1)) (a_cons (e_int) (a_cons (e_int) a_nil))) (fun _ => rfl)) (g_tup 2 (gs_cons (g_name 2 (fun _ => pg_name (i := 2) S.nd rfl (by first | exact .inl rfl | exact .inr rfl))) (gs_cons (g_name 3 (fun _ => pg_name (i := 3) S.nd rfl (by first | exact .inl rfl | exact .inr rfl))) gs_nil)))) (s_cons (s_asg (e_callP (RX := RX) 0 O__law_upon (by decide) G__law_upon F__law_upon.kp (F__law_upon.bindsN fun _ _ _ _ _ _ us hl => match us, hl with | [_, _, _, _], _ => rfl) hE ni ht (fun _ => pv 0) (a_cons (e_var 2 (fun _ => pv 2)) (a_cons (e_int) (a_cons (e_int) a_nil))) (fun _ => rfl)) (g_tup 2 (gs_cons (g_name 4 (fun _ => pg_name (i := 4) S.nd rfl (by first | exact .inl rfl | exact .inr rfl))) (gs_cons (g_name 5 (fun _ => pg_name (i := 5) S.nd rfl (by first | exact .inl rfl | exact .inr rfl))) gs_nil)))) (s_cons (s_for (fun _ => body_own) (id_seq2 (e_fz (l_lst (a_cons (e_tup (a_cons (e_var 2 (fun _ => pv 2)) (a_cons (e_var 1 (fun _ => pv 1)) (a_cons (e_var 3 (fun _ => pv 3)) a_nil)))) (a_cons (e_tup (a_cons (e_var 4 (fun _ => pv 4)) (a_cons (e_var 2 (fun _ => pv 2)) (a_cons (e_var 5 (fun _ => pv 5)) a_nil)))) a_nil))))) (g_tup 3 (gs_cons (g_name 6 (fun _ => pg_name (i := 6) S.nd rfl (by first | exact .inl rfl | exact .inr rfl))) (gs_cons (g_name 7 (fun _ => pg_name (i := 7) S.nd rfl (by first | exact .inl rfl | exact .inr rfl))) (gs_cons (g_name 8 (fun _ => pg_name (i := 8) S.nd rfl (by first | exact .inl rfl | exact .inr rfl))) gs_nil)))) (s_cons (s_setR (fun t h j => ps_set (i := 9) S.nd rfl (by first | exact .inl rfl | exact .inr rfl) (h j)) (e_callP (RX := RX) 0 O__law_pick (by decide) G__law_pick F__law_pick.kp (F__law_pick.bindsN fun _ _ _ _ _ _ us hl => match us, hl with | [_, _], _ => rfl) hE ni ht (fun _ => pv 0) (a_cons (e_fz (l_lst (a_cons (e_var 6 (fun _ => pv 6)) (a_cons (e_fz (l_lst (a_cons (e_ix (e_var 6 (fun _ => pv 6)) (e_int)) (a_cons (e_fz (l_lc (own := [("tie", 10)]) (fun _ => blkOk_by (own := [("tie", 10)]) (N := ["pen", "low", "half", "second", "high", "first", "above", "below", "way", "handed", "tie", "value", "end", "told_v", "names", "name", "ends", "t", "turn"]) (sc := defScope (top 78)) (by decide +kernel)) (fun _ => S.nd) (id_seq2 (e_ix (e_var 6 (fun _ => pv 6)) (e_int))) (g_name 10 (fun _ => pg_name (i := 10) S.nd rfl (by first | exact .inl rfl | exact .inr rfl))) ts_nil (e_fz (l_list B.list (a_cons (e_var 10 (fun _ => pv 10)) a_nil) (fun _ => rfl))))) a_nil)))) a_nil)))) a_nil) (fun _ => rfl))) (s_cons (s_for (fun _ => body_own) (id_seq2 (e_addX (e_fz (l_lst (a_cons (e_var 8 (fun _ => pv 8)) a_nil))) (e_callP (RX := RX) 0 O__law_wrong (by decide) G__law_wrong F__law_wrong.kp (F__law_wrong.bindsN fun _ _ _ _ _ _ us hl => match us, hl with | [_, _, _], _ => rfl) hE ni ht (fun _ => pv 0) (a_cons (e_var 8 (fun _ => pv 8)) (a_cons (e_var 7 (fun _ => pv 7)) a_nil)) (fun _ => rfl)))) (g_name 11 (fun _ => pg_name (i := 11) S.nd rfl (by first | exact .inl rfl | exact .inr rfl))) (s_one (s_if (tc c_ne (e_repr Sy (by decide) B.repr (a_cons (e_call (RX := RX) O_is_web_map (by decide) G_is_web_map F_is_web_map.kp (F_is_web_map.bindsN fun _ _ _ _ _ _ us hl => match us, hl with | [_, _, _], _ => rfl) hE ni (a_cons (e_var 9 (fun _ => pv 9)) (a_cons (e_var 7 (fun _ => pv 7)) (a_cons (e_var 11 (fun _ => pv 11)) a_nil))) (fun _ => rfl)) a_nil) (fun _ => rfl)) (e_repr Sy (by decide) B.repr (a_cons (e_call (RX := RX) O__law_is_way (by decide) G__law_is_way F__law_is_way.kp (F__law_is_way.bindsN fun _ _ _ _ _ _ us hl => match us, hl with | [_, _, _], _ => rfl) hE ni (a_cons (e_var 6 (fun _ => pv 6)) (a_cons (e_var 7 (fun _ => pv 7)) (a_cons (e_var 11 (fun _ => pv 11)) a_nil))) (fun _ => rfl)) a_nil) (fun _ => rfl)) (nomark _)) (s_one (s_ret (e_bl))) (s_nil)))) (s_one (s_if (tc c_ne (e_repr Sy (by decide) B.repr (a_cons (e_call (RX := RX) O_is_cover (by decide) G_is_cover F_is_cover.kp (F_is_cover.bindsN fun _ _ _ _ _ _ us hl => match us, hl with | [_, _, _], _ => rfl) hE ni (a_cons (e_var 9 (fun _ => pv 9)) (a_cons (e_var 7 (fun _ => pv 7)) (a_cons (e_fz (l_lst (a_cons (e_fz (l_list B.list (a_cons (e_ix (e_var 8 (fun _ => pv 8)) (e_int)) a_nil) (fun _ => rfl))) (a_cons (e_fz (l_lc (own := [("end", 12)]) (fun _ => blkOk_by (own := [("end", 12)]) (N := ["pen", "low", "half", "second", "high", "first", "above", "below", "way", "handed", "tie", "value", "end", "told_v", "names", "name", "ends", "t", "turn"]) (sc := defScope (top 78)) (by decide +kernel)) (fun _ => S.nd) (id_seq2 (e_ix (e_var 8 (fun _ => pv 8)) (e_int))) (g_name 12 (fun _ => pg_name (i := 12) S.nd rfl (by first | exact .inl rfl | exact .inr rfl))) ts_nil (e_fz (l_list B.list (a_cons (e_var 12 (fun _ => pv 12)) a_nil) (fun _ => rfl))))) a_nil)))) a_nil))) (fun _ => rfl)) a_nil) (fun _ => rfl)) (e_repr Sy (by decide) B.repr (a_cons (e_call (RX := RX) O__law_covers (by decide) G__law_covers F__law_covers.kp (F__law_covers.bindsN fun _ _ _ _ _ _ us hl => match us, hl with | [_, _, _], _ => rfl) hE ni (a_cons (e_var 6 (fun _ => pv 6)) (a_cons (e_var 7 (fun _ => pv 7)) (a_cons (e_var 8 (fun _ => pv 8)) a_nil))) (fun _ => rfl)) a_nil) (fun _ => rfl)) (nomark _)) (s_one (s_ret (e_bl))) (s_nil)))))) (s_cons (s_setR (fun t h j => ps_set (i := 13) S.nd rfl (by first | exact .inl rfl | exact .inr rfl) (h j)) (e_call (RX := RX) O_behind_web_map (by decide) G_behind_web_map F_behind_web_map.kp (F_behind_web_map.bindsN fun _ _ _ _ _ _ us hl => match us, hl with | [_, _, _, _, _], _ => rfl) hE ni (a_cons (e_var 4 (fun _ => pv 4)) (a_cons (e_var 2 (fun _ => pv 2)) (a_cons (e_var 1 (fun _ => pv 1)) (a_cons (e_var 5 (fun _ => pv 5)) (a_cons (e_var 3 (fun _ => pv 3)) a_nil))))) (fun _ => rfl))) (s_cons (s_setR (fun t h j => ps_set (i := 14) S.nd rfl (by first | exact .inl rfl | exact .inr rfl) (h j)) (e_tuple B.tuple (a_cons (e_fz (l_lc (own := [("name", 15)]) (fun _ => blkOk_by (own := [("name", 15)]) (N := ["pen", "low", "half", "second", "high", "first", "above", "below", "way", "handed", "tie", "value", "end", "told_v", "names", "name", "ends", "t", "turn"]) (sc := defScope (top 78)) (by decide +kernel)) (fun _ => S.nd) (id_seq2 (e_ix (e_var 5 (fun _ => pv 5)) (e_int))) (g_name 15 (fun _ => pg_name (i := 15) S.nd rfl (by first | exact .inl rfl | exact .inr rfl))) ts_nil (e_ix (e_ix (e_var 3 (fun _ => pv 3)) (e_int)) (e_var 15 (fun _ => pv 15))))) a_nil) (fun _ => rfl))) (s_cons (s_setR (fun t h j => ps_set (i := 16) S.nd rfl (by first | exact .inl rfl | exact .inr rfl) (h j)) (e_tuple B.tuple (a_cons (e_fz (l_lc (own := [("t", 17), ("turn", 18)]) (fun _ => blkOk_by (own := [("t", 17), ("turn", 18)]) (N := ["pen", "low", "half", "second", "high", "first", "above", "below", "way", "handed", "tie", "value", "end", "told_v", "names", "name", "ends", "t", "turn"]) (sc := defScope (top 78)) (by decide +kernel)) (fun _ => S.nd) (id_seq2 (e_ix (e_var 5 (fun _ => pv 5)) (e_int))) (g_tup 2 (gs_cons (g_name 17 (fun _ => pg_name (i := 17) S.nd rfl (by first | exact .inl rfl | exact .inr rfl))) (gs_cons (g_name 18 (fun _ => pg_name (i := 18) S.nd rfl (by first | exact .inl rfl | exact .inr rfl))) gs_nil))) ts_nil (e_tup (a_cons (e_ix (e_ix (e_ix (e_var 3 (fun _ => pv 3)) (e_int)) (e_var 17 (fun _ => pv 17))) (e_int)) (a_cons (ec c_ne (e_var 18 (fun _ => pv 18)) (e_ix (e_ix (e_ix (e_var 3 (fun _ => pv 3)) (e_int)) (e_var 17 (fun _ => pv 17))) (e_int)) (nomark _)) a_nil))))) a_nil) (fun _ => rfl))) (s_one (s_ret ((e_and (ec c_eq (e_repr Sy (by decide) B.repr (a_cons (e_var 13 (fun _ => pv 13)) a_nil) (fun _ => rfl)) (e_repr Sy (by decide) B.repr (a_cons (e_tup (a_cons (e_var 14 (fun _ => pv 14)) (a_cons (e_var 16 (fun _ => pv 16)) a_nil))) a_nil) (fun _ => rfl)) (nomark _)) (e_one (ec is_bl (e_call (RX := RX) O_is_web_map (by decide) G_is_web_map F_is_web_map.kp (F_is_web_map.bindsN fun _ _ _ _ _ _ us hl => match us, hl with | [_, _, _], _ => rfl) hE ni (a_cons (e_var 4 (fun _ => pv 4)) (a_cons (e_var 1 (fun _ => pv 1)) (a_cons (e_var 13 (fun _ => pv 13)) a_nil))) (fun _ => rfl)) (e_bl) (nomark _))))))))))))), fun ds c R h => h.2⟩
theorem sc__law_copies_hold : FnScope ["pen", "below", "many", "order", "names", "ties", "ends", "k", "place", "t", "i", "j", "turn", "above", "less", "more"] ["pen"] (defScope (top 79)) := ⟨rfl, rfl, rfl, by decide +kernel, rfl, by decide +kernel, by decide +kernel⟩
def Ok__law_copies_hold (P : Program) (w : World) (K : PySem.W.Frag) (mg : Str → Option Value) (base : Heap) (T : List (Addr × Str)) (gm : Gm) : Prop := ∃ f fd, Gd.FnG P w K mg base (L2.CX P w) 15 f fd ["pen"] (spF true T (Ψ__law_copies_hold gm)) ∧ FnP K "_law_copies_hold" (top 79) f fd ∧ mg "_law_copies_hold" = some (.ref f)
theorem ok__law_copies_hold (B : Bs mg) (Sy : Sys K) (Fd : FnP K "_law_copies_hold" (top 79) f fd) (h__law_plain_web : Ok__law_plain_web P w K mg base T gm) (h__law_draw : Ok__law_draw P w K mg base T gm) (h__law_shuffled : Ok__law_shuffled P w K mg base T gm) (h_is_cover : Ok_is_cover P w K mg base T gm) (gl : mg "_law_copies_hold" = some (.ref f)) : Ok__law_copies_hold P w K mg base T gm := by
  obtain ⟨f__law_plain_web, fd__law_plain_web, O__law_plain_web, F__law_plain_web, G__law_plain_web⟩ := h__law_plain_web
  obtain ⟨f__law_draw, fd__law_draw, O__law_draw, F__law_draw, G__law_draw⟩ := h__law_draw
  obtain ⟨f__law_shuffled, fd__law_shuffled, O__law_shuffled, F__law_shuffled, G__law_shuffled⟩ := h__law_shuffled
  obtain ⟨f_is_cover, fd_is_cover, O_is_cover, F_is_cover, G_is_cover⟩ := h_is_cover
  have S := sc__law_copies_hold
  refine ⟨f, fd, fn_of Fd S (fun ds c R RX h => by have := h.1; simp [this]) (fun cdv A outer s H E hr hG M RX hH hp ht ni hE => ?_), Fd, gl⟩
  exact ⟨_, s_cons (s_setR (fun t h j => ps_set (i := 1) S.nd rfl (by first | exact .inl rfl | exact .inr rfl) (h j)) (e_callP (RX := RX) 0 O__law_plain_web (by decide) G__law_plain_web F__law_plain_web.kp (F__law_plain_web.bindsN fun _ _ _ _ _ _ us hl => match us, hl with | [_, _, _], _ => rfl) hE ni ht (fun _ => pv 0) (a_cons (e_int) (a_cons (e_int) a_nil)) (fun _ => rfl))) (s_cons (s_setR (fun t h j => ps_set (i := 2) S.nd rfl (by first | exact .inl rfl | exact .inr rfl) (h j)) (e_addX (e_int) (e_callP (RX := RX) 0 O__law_draw (by decide) G__law_draw F__law_draw.kp (F__law_draw.bindsN fun _ _ _ _ _ _ us hl => match us, hl with | [_, _], _ => rfl) hE ni ht (fun _ => pv 0) (a_cons (e_int) a_nil) (fun _ => rfl)))) (s_cons (s_setR (fun t h j => ps_set (i := 3) S.nd rfl (by first | exact .inl rfl | exact .inr rfl) (h j)) (e_callP (RX := RX) 0 O__law_shuffled (by decide) G__law_shuffled F__law_shuffled.kp (F__law_shuffled.bindsN fun _ _ _ _ _ _ us hl => match us, hl with | [_, _], _ => rfl) hE ni ht (fun _ => pv 0) (a_cons (e_fz (l_lrange B.list B.range (e_mulX (e_ix (e_var 1 (fun _ => pv 1)) (e_int)) (e_var 2 (fun _ => pv 2))) (fun _ => rfl) (fun _ => rfl))) a_nil) (fun _ => rfl))) (s_cons (s_par3R (i := 4) (j := 5) (l := 6) (fun t u v h1 h2 h3 q => ps_par3 (i := 4) (j := 5) (l := 6) rfl S.nd rfl rfl rfl (by decide) (by decide) (by decide) rfl rfl rfl (pa_cons (h1 q) (pa_cons (h2 q) (pa_cons (h3 q) pa_nil))) rfl) (p_own (l_mul (e_fz (l_lst (a_cons (e_int) a_nil))) (e_len B.len (a_cons (e_var 3 (fun _ => pv 3)) a_nil) (fun _ => rfl)))) (p_own (l_lst a_nil)) (p_own (l_lst a_nil))) (s_cons (s_for (fun _ => body_own) (id_rng (a_cons (e_var 2 (fun _ => pv 2)) a_nil) (fun _ => rfl) B.range) (g_name 7 (fun _ => pg_name (i := 7) S.nd rfl (by first | exact .inl rfl | exact .inr rfl))) (s_cons (s_for (fun _ => body_own) (id_rng (a_cons (e_ix (e_var 1 (fun _ => pv 1)) (e_int)) a_nil) (fun _ => rfl) B.range) (g_name 8 (fun _ => pg_name (i := 8) S.nd rfl (by first | exact .inl rfl | exact .inr rfl))) (s_one (s_setO 4 (fun _ => pv 4) (e_ix (e_var 3 (fun _ => pv 3)) (e_addX (e_mulX (e_var 7 (fun _ => pv 7)) (e_ix (e_var 1 (fun _ => pv 1)) (e_int))) (e_var 8 (fun _ => pv 8)))) (e_var 8 (fun _ => pv 8))))) (s_one (s_for (fun _ => body_own) (id_rng (a_cons (e_len B.len (a_cons (e_ix (e_var 1 (fun _ => pv 1)) (e_int)) a_nil) (fun _ => rfl)) a_nil) (fun _ => rfl) B.range) (g_name 9 (fun _ => pg_name (i := 9) S.nd rfl (by first | exact .inl rfl | exact .inr rfl))) (s_cons (s_asg (e_fz (l_lc (own := [("place", 8)]) (fun _ => blkOk_by (own := [("place", 8)]) (N := ["pen", "below", "many", "order", "names", "ties", "ends", "k", "place", "t", "i", "j", "turn", "above", "less", "more"]) (sc := defScope (top 79)) (by decide +kernel)) (fun _ => S.nd) (id_seq2 (e_ix (e_ix (e_var 1 (fun _ => pv 1)) (e_int)) (e_var 9 (fun _ => pv 9)))) (g_name 8 (fun _ => pg_name (i := 8) S.nd rfl (by first | exact .inl rfl | exact .inr rfl))) ts_nil (e_ix (e_var 3 (fun _ => pv 3)) (e_addX (e_mulX (e_var 7 (fun _ => pv 7)) (e_ix (e_var 1 (fun _ => pv 1)) (e_int))) (e_var 8 (fun _ => pv 8)))))) (g_unl 2 (gs_cons (g_name 10 (fun _ => pg_name (i := 10) S.nd rfl (by first | exact .inl rfl | exact .inr rfl))) (gs_cons (g_name 11 (fun _ => pg_name (i := 11) S.nd rfl (by first | exact .inl rfl | exact .inr rfl))) gs_nil)))) (s_cons (s_setR (fun t h j => ps_set (i := 12) S.nd rfl (by first | exact .inl rfl | exact .inr rfl) (h j)) (ec c_eq (e_callP (RX := RX) 0 O__law_draw (by decide) G__law_draw F__law_draw.kp (F__law_draw.bindsN fun _ _ _ _ _ _ us hl => match us, hl with | [_, _], _ => rfl) hE ni ht (fun _ => pv 0) (a_cons (e_int) a_nil) (fun _ => rfl)) (e_int) (nomark _))) (s_cons (s_append 5 (fun _ => pv 5) (e_if (t_val (e_var 12 (fun _ => pv 12))) (e_tup (a_cons (e_var 11 (fun _ => pv 11)) (a_cons (e_var 10 (fun _ => pv 10)) a_nil))) (e_tup (a_cons (e_var 10 (fun _ => pv 10)) (a_cons (e_var 11 (fun _ => pv 11)) a_nil))))) (s_one (s_append 6 (fun _ => pv 6) (e_tup (a_cons (e_var 9 (fun _ => pv 9)) (a_cons (e_var 12 (fun _ => pv 12)) a_nil)))))))))))) (s_frz 6 (s_frz 4 (s_frz 5 (s_cons (s_setR (fun t h j => ps_set (i := 13) S.nd rfl (by first | exact .inl rfl | exact .inr rfl) (h j)) (e_tup (a_cons (e_len B.len (a_cons (e_var 3 (fun _ => pv 3)) a_nil) (fun _ => rfl)) (a_cons (e_tuple B.tuple (a_cons (e_var 5 (fun _ => pv 5)) a_nil) (fun _ => rfl)) a_nil)))) (s_cons (s_if (tc isnot_bl (e_call (RX := RX) O_is_cover (by decide) G_is_cover F_is_cover.kp (F_is_cover.bindsN fun _ _ _ _ _ _ us hl => match us, hl with | [_, _, _], _ => rfl) hE ni (a_cons (e_var 13 (fun _ => pv 13)) (a_cons (e_var 1 (fun _ => pv 1)) (a_cons (e_tup (a_cons (e_tuple B.tuple (a_cons (e_var 4 (fun _ => pv 4)) a_nil) (fun _ => rfl)) (a_cons (e_tuple B.tuple (a_cons (e_var 6 (fun _ => pv 6)) a_nil) (fun _ => rfl)) a_nil))) a_nil))) (fun _ => rfl)) (e_bl) (nomark _)) (s_one (s_ret (e_bl))) (s_nil)) (s_cons (s_if (tc c_eq (e_var 5 (fun _ => pv 5)) (e_fz (l_lst a_nil)) (nomark _)) (s_one (s_ret (e_bl))) (s_nil)) (s_cons (s_parR (i := 14) (j := 15) (by decide) (fun t u h1 h2 q => ps_par (i := 14) (j := 15) rfl S.nd rfl rfl (by decide) rfl rfl (pa_cons (h1 q) (pa_cons (h2 q) pa_nil)) rfl) (p_d (e_tup (a_cons (e_len B.len (a_cons (e_var 3 (fun _ => pv 3)) a_nil) (fun _ => rfl)) (a_cons (e_tuple B.tuple (a_cons (e_cut (e_var 5 (fun _ => pv 5)) (o_some (e_int)) o_none) a_nil) (fun _ => rfl)) a_nil)))) (p_d (e_tup (a_cons (e_len B.len (a_cons (e_var 3 (fun _ => pv 3)) a_nil) (fun _ => rfl)) (a_cons (e_tuple B.tuple (a_cons (e_addX (e_var 5 (fun _ => pv 5)) (e_cut (e_var 5 (fun _ => pv 5)) o_none (o_some (e_int)))) a_nil) (fun _ => rfl)) a_nil))))) (s_cons (s_if (tc isnot_bl (e_call (RX := RX) O_is_cover (by decide) G_is_cover F_is_cover.kp (F_is_cover.bindsN fun _ _ _ _ _ _ us hl => match us, hl with | [_, _, _], _ => rfl) hE ni (a_cons (e_var 14 (fun _ => pv 14)) (a_cons (e_var 1 (fun _ => pv 1)) (a_cons (e_tup (a_cons (e_tuple B.tuple (a_cons (e_var 4 (fun _ => pv 4)) a_nil) (fun _ => rfl)) (a_cons (e_tuple B.tuple (a_cons (e_cut (e_var 6 (fun _ => pv 6)) (o_some (e_int)) o_none) a_nil) (fun _ => rfl)) a_nil))) a_nil))) (fun _ => rfl)) (e_bl) (nomark _)) (s_one (s_ret (e_bl))) (s_nil)) (s_one (s_ret (ec is_bl (e_call (RX := RX) O_is_cover (by decide) G_is_cover F_is_cover.kp (F_is_cover.bindsN fun _ _ _ _ _ _ us hl => match us, hl with | [_, _, _], _ => rfl) hE ni (a_cons (e_var 15 (fun _ => pv 15)) (a_cons (e_var 1 (fun _ => pv 1)) (a_cons (e_tup (a_cons (e_tuple B.tuple (a_cons (e_var 4 (fun _ => pv 4)) a_nil) (fun _ => rfl)) (a_cons (e_tuple B.tuple (a_cons (e_addX (e_var 6 (fun _ => pv 6)) (e_cut (e_var 6 (fun _ => pv 6)) o_none (o_some (e_int)))) a_nil) (fun _ => rfl)) a_nil))) a_nil))) (fun _ => rfl)) (e_bl) (nomark _)))))))))))))))), fun ds c R h => h.2⟩
end
end K74
namespace K74
open PySem DL
open L2 (atI)
variable {gm : Gm} {c : Int} {R : D → Int → Prop} {RX : DX → Int → Prop}
theorem whole {d : D} (hd : (tyN d).isSome = true) : Ψ_is_whole gm [d] c R RX ↔ R (.bl (isI d)) c := by
  unfold Ψ_is_whole
  cases d <;> simp at hd <;> simp [isI]
theorem tuple_of {d : D} {n : Int} (hd : (tyN d).isSome = true) : Ψ_is_tuple_of gm [d, .int n] c R RX ↔ R (.bl (isTup n d)) c := by
  unfold Ψ_is_tuple_of
  cases d <;> simp at hd <;> simp [isTup]
theorem in_tuples {d : D} : Ψ_in_tuples gm [d] c R RX ↔ dep 12 d = true ∧ R (tups d) c := by
  unfold Ψ_in_tuples Φt
  constructor
  · rintro ⟨d', e, h⟩
    cases e
    exact h
  · exact fun h => ⟨d, rfl, h⟩
def inR (n : Int) : D → Bool
  | .int i => decide (0 ≤ i) && decide (i < n)
  | _ => false
def isTie (n : Int) : D → Bool
  | .tup [.int i, .int j] => (inR n (.int i) && inR n (.int j)) && decide (i ≠ j)
  | _ => false
def isWeb : D → Bool
  | .tup [.int n, .tup ts] => (decide (1 ≤ n) && decide (n ≤ 8)) && (decide (ts.length ≤ 12) && ts.all (isTie n))
  | _ => false
theorem dep_pl {n : Nat} {d : D} (h : dep n d = true) : (tyN d).isSome = true := by
  cases n with
  | zero => cases d <;> cases h
  | succ n => cases d <;> first | rfl | exact h
theorem dep_tup {n : Nat} {l : List D} (h : dep (n + 1) (.tup l) = true) : depL n l = true ∧ l.length ≤ 1000 := by
  have h : (decide (l.length ≤ 1000) && depL n l) = true := h
  rw [Bool.and_eq_true] at h
  exact ⟨h.2, of_decide_eq_true h.1⟩
theorem depL_mem {n : Nat} : ∀ {l : List D}, depL n l = true → ∀ x ∈ l, dep n x = true
  | [], _, x, hx => by cases hx
  | d :: ds, h, x, hx => by
    have h : (dep n d && depL n ds) = true := h
    rw [Bool.and_eq_true] at h
    rcases List.mem_cons.mp hx with e | e
    · rw [e]; exact h.1
    · exact depL_mem h.2 x e
theorem atI0 {a b : D} : atI [a, b] 0 = some a := rfl
theorem atI1 {a b : D} : atI [a, b] 1 = some b := rfl
/-- all items are ints in a range -/
theorem all_range {v : Nat} {n : Int} {c : Int} {sl : List Slot} {χ : DE} {K : List D → S → Prop} {l : List D} (hv : v < sl.length) (hl : l.length ≤ 1000) (hp : ∀ x ∈ l, (tyN x).isSome = true) (hn : ∀ x (Q : D → S → Prop), Q (.int n) ⟨sl.set v (.d x), c⟩ → χ ⟨sl.set v (.d x), c⟩ Q)
    (h : K (l.map fun x => .bl (inR n x)) ⟨sl, c⟩) : lcL [v] (fun d s R => R (s.set v (.d d))) dYes (dAnd (dCall (Ψ_is_whole gm) (fun _ _ => False) (aCons (dVar v) aNil)) (dChain (fun i j => decide (i ≤ j)) (fun i j => decide (i < j)) (dC (.int 0)) (dVar v) χ)) K sl [] l c := by
  refine lc_map (fun x => .bl (inR n x)) hv (by omega) (fun x hx Q hQ => ?_) h
  have e1 : (sl.set v (.d x))[v]? = some (.d x) := by simp [hv]
  simp [e1, whole (hp x hx)]
  cases x <;> simp [isI, inR] at hQ ⊢ <;> (try exact hQ)
  split
  · rename_i h0
    exact hn _ _ (by simpa [h0] using hQ)
  · rename_i h0
    simpa [h0] using hQ
theorem bls_map (f : D → Bool) : ∀ l : List D, blsD (l.map fun x => .bl (f x)) = some (l.map f)
  | [] => rfl
  | x :: l => by simp [bls_map f l]
/-- the ties of a web, one after the other -/
theorem web_ties {n : Int} {b : D} {k : Nat} {c : Int} {E : DEn} {K : Bool → Prop} (hnx : ∀ x, K true → E.nx ⟨[.d (.tup [.int n, b]), x, .no], c⟩) (hrt : ∀ x, K false → E.rt (.bl false) ⟨[.d (.tup [.int n, b]), x, .no], c⟩) : ∀ (l : List D) (x : Slot), (∀ y ∈ l, dep (k + 2) y = true) → K (l.all (isTie n)) →
    dForL (fun d s R => R (s.set 1 (.d d))) (dSeq (dIfS ((tOrD (tNotD (tBool (dCall (Ψ_is_tuple_of gm) RX (aCons (dVar 1) (aCons (dC (.int 2)) aNil))))) (tNotD (tBool (dCB cAll (aCons (dFz (dLc [2] (dSeq2 (dVar 1)) (fun d s R => R (s.set 2 (.d d))) dYes ((dAnd (dCall (Ψ_is_whole gm) (fun _ _ => False) (aCons (dVar 2) aNil)) (dChain (fun i j => decide (i ≤ j)) (fun i j => decide (i < j)) (dC (.int 0)) (dVar 2) (dOp oIx (dVar 0) (dC (.int 0)))))))) aNil)))))) (dRet (dC (.bl false))) (dNext)) (dIfS (tCm oEq (dOp oIx (dVar 1) (dC (.int 0))) (dOp oIx (dVar 1) (dC (.int 1)))) (dRet (dC (.bl false))) (dNext))) E l ⟨[.d (.tup [.int n, b]), x, .no], c⟩
  | [], x, _, h => hnx x h
  | t :: l, x, hp, h => by
    have IH := web_ties hnx hrt l (.d t) (fun y hy => hp y (List.mem_cons_of_mem _ hy))
    have dt := hp t List.mem_cons_self
    have pt := dep_pl dt
    rw [List.all_cons] at h
    simp only [dForL]
    by_cases h2 : isTup 2 t = true
    · obtain ⟨i, j, rfl⟩ := isTup_2 h2
      have dl := (dep_tup dt).1
      have pi := dep_pl (depL_mem dl i (by simp))
      have pj := dep_pl (depL_mem dl j (by simp))
      simp [tuple_of pt, h2, whole pi, whole pj, atI0, atI1]
      cases i <;> cases j <;> simp [isI, isTie, inR] at pi pj h ⊢ <;> first | exact hrt _ h | skip
      rename_i i j
      by_cases a0 : 0 ≤ i <;> by_cases a1 : 0 ≤ j <;> by_cases a2 : n ≤ i <;> by_cases a3 : n ≤ j <;> by_cases a4 : i = j <;>
        simp only [a0, a1, a2, a3, a4, decide_true, decide_false, Bool.true_and, Bool.false_and, Bool.and_false, Bool.and_true, Bool.not_true, Bool.not_false, if_true, if_false, true_or, or_true, or_self, show (i < n) = ¬ n ≤ i from by simp, show (j < n) = ¬ n ≤ j from by simp, not_true, not_false_eq_true] at h ⊢ <;> first | exact hrt _ h | exact IH h
    · have e : isTie n t = false := by
        unfold isTie
        split
        · simp [isTup] at h2
        · rfl
      rw [e, Bool.false_and] at h
      simp [tuple_of pt, h2]
      exact hrt _ h
theorem is_web {d : D} {n : Nat} (hd : dep (n + 4) d = true) (h : R (.bl (isWeb d)) c) : Ψ_is_web gm [d] c R RX := by
  refine ⟨rfl, ?_⟩
  have p0 := dep_pl hd
  by_cases h2 : isTup 2 d = true
  · obtain ⟨a, b, rfl⟩ := isTup_2 h2
    obtain ⟨hd2, _⟩ := dep_tup hd
    have pa := dep_pl (depL_mem hd2 a (by simp))
    have db := depL_mem hd2 b (by simp)
    have pb := dep_pl db
    simp [tuple_of p0, h2, atI0, atI1, whole pa]
    by_cases ha : isI a = true
    · obtain ⟨n, rfl⟩ := isI_at ha
      by_cases hn : 1 ≤ n
      · by_cases hn8 : 8 < n
        · have e : isWeb (.tup [.int n, b]) = false := by
            unfold isWeb
            split
            · rename_i h; cases h; simp; omega
            · rfl
          rw [e] at h
          simp [ha, hn, hn8, h]
        · rcases tyN_cases pb with rfl | ⟨x, rfl⟩ | ⟨x, rfl⟩ | ⟨x, rfl⟩ | ⟨x, rfl⟩ | ⟨x, rfl⟩ | ⟨x, y, rfl⟩
          all_goals try (simp [isWeb] at h; simp [ha, hn, hn8, h]; done)
          by_cases h12 : 12 < x.length
          · have e : isWeb (.tup [.int n, .tup x]) = false := by simp [isWeb]; omega
            rw [e] at h
            simp [ha, hn, hn8]
            rw [if_pos (by omega)]
            exact h
          · have e : isWeb (.tup [.int n, .tup x]) = x.all (isTie n) := by
              have q1 : decide (1 ≤ n) = true := by simpa using hn
              have q2 : decide (n ≤ 8) = true := by simp; omega
              have q3 : decide (x.length ≤ 12) = true := by simp; omega
              show ((decide (1 ≤ n) && decide (n ≤ 8)) && (decide (x.length ≤ 12) && x.all (isTie n))) = _
              rw [q1, q2, q3]
              rfl
            rw [e] at h
            simp [ha, hn, hn8]
            rw [if_neg (by omega)]
            exact web_ties (K := fun b => R (.bl b) c) (fun _ h => h) (fun _ h => h) x _ (fun y hy => depL_mem (dep_tup db).1 y hy) h
      · have e : isWeb (.tup [.int n, b]) = false := by
          unfold isWeb
          split
          · rename_i h; cases h; simp; omega
          · rfl
        rw [e] at h
        simp [ha, hn, h]
    · have e : isWeb (.tup [a, b]) = false := by
        unfold isWeb
        split
        · rename_i h; cases h; simp [isI] at ha
        · rfl
      rw [e] at h
      simp [ha, h]
  · have e : isWeb d = false := by
      unfold isWeb
      split
      · simp [isTup] at h2
      · rfl
    rw [e] at h
    simp [tuple_of p0, h2, h]
mutual
theorem dep_tups : ∀ {n : Nat} {d : D}, dep n d = true → dep n (tups d) = true
  | n + 1, .tup ds, h => by
    obtain ⟨h1, h2⟩ := dep_tup h
    show (decide ((tupsL ds).length ≤ 1000) && depL n (tupsL ds)) = true
    rw [depL_tups h1, tupsL_len]
    simpa using h2
  | n + 1, .lst ds, h => by
    obtain ⟨h1, h2⟩ := dep_tup (l := ds) h
    show (decide ((tupsL ds).length ≤ 1000) && depL n (tupsL ds)) = true
    rw [depL_tups h1, tupsL_len]
    simpa using h2
  | n + 1, .non, h => h
  | n + 1, .bl _, h => h
  | n + 1, .int _, h => h
  | n + 1, .str _, h => h
  | n + 1, .dct _ _, h => h
  | n + 1, .obj _ _ _, h => h
  | n + 1, .ty _, h => h
  | n + 1, .cls _, h => h
  | n + 1, .clo _, h => h
  | n + 1, .sc _ _, h => h
  | 0, d, h => by cases d <;> cases h
theorem depL_tups : ∀ {n : Nat} {ds : List D}, depL n ds = true → depL n (tupsL ds) = true
  | _, [], _ => rfl
  | n, d :: ds, h => by
    have h : (dep n d && depL n ds) = true := h
    rw [Bool.and_eq_true] at h
    show (dep n (tups d) && depL n (tupsL ds)) = true
    rw [dep_tups h.1, depL_tups h.2]
    rfl
theorem tupsL_len : ∀ ds : List D, (tupsL ds).length = ds.length
  | [] => rfl
  | d :: ds => congrArg Nat.succ (tupsL_len ds)
end
theorem web_from {w : Str} {d : D} (hd : dep 12 d = true) (h1 : isWeb (tups d) = true → R (tups d) c) (h2 : isWeb (tups d) = false → RX ⟨gm.a "BadWeb", ["what", "value"], [.str w, d]⟩ c) : Ψ_web_from gm [.str w, d] c R RX := by
  refine ⟨rfl, ?_⟩
  simp [in_tuples, hd]
  refine is_web (n := 8) (dep_tups hd) ?_
  simp
  cases e : isWeb (tups d) with
  | true => simpa using h1 e
  | false => simpa using h2 e
theorem isWeb_at {d : D} (h : isWeb d = true) : ∃ n ts, d = .tup [.int n, .tup ts] ∧ 1 ≤ n ∧ n ≤ 8 ∧ ts.length ≤ 12 ∧ ∀ t ∈ ts, isTie n t = true := by
  unfold isWeb at h
  split at h
  · rename_i n ts
    simp only [Bool.and_eq_true, decide_eq_true_eq, List.all_eq_true] at h
    exact ⟨n, ts, rfl, h.1.1, h.1.2, h.2.1, h.2.2⟩
  · cases h
theorem isTie_at {n : Int} {d : D} (h : isTie n d = true) : ∃ i j : Int, d = .tup [.int i, .int j] ∧ 0 ≤ i ∧ i < n ∧ 0 ≤ j ∧ j < n ∧ i ≠ j := by
  unfold isTie at h
  split at h
  · rename_i i j
    simp only [inR, Bool.and_eq_true, decide_eq_true_eq] at h
    exact ⟨i, j, rfl, h.1.1.1, h.1.1.2, h.1.2.1, h.1.2.2, h.2⟩
  · cases h
end K74
namespace K74
open PySem DL
open L2 (atI)
variable {gm : Gm} {c : Int} {R : D → Int → Prop} {RX : DX → Int → Prop}
/-! ### webs, their maps -/
abbrev Tie := Nat × Nat
@[simp] def prD (p : Tie) : D := .tup [.int p.1, .int p.2]
abbrev tsD (ts : List Tie) : List D := ts.map prD
abbrev webD (n : Nat) (ts : List Tie) : D := .tup [.int n, .tup (tsD ts)]
abbrev nsD (ss : List Nat) : List D := ss.map fun s : Nat => D.int (s : Int)
theorem atI_nat {α : Type} {l : List α} (t : Nat) : atI l (t : Int) = l[t]? := by
  unfold atI
  by_cases h : t < l.length
  · simp [L2.ixN, h]
  · simp [L2.ixN, h]
abbrev OkT (n : Nat) (p : Tie) : Prop := p.1 < n ∧ p.2 < n ∧ p.1 ≠ p.2
theorem isWeb_web {n : Nat} {ts : List Tie} (h1 : 1 ≤ n) (h8 : n ≤ 8) (h12 : ts.length ≤ 12) (h : ∀ p ∈ ts, OkT n p) : isWeb (webD n ts) = true := by
  have q1 : decide ((1 : Int) ≤ n) = true := by simp; omega
  have q2 : decide ((n : Int) ≤ 8) = true := by simp; omega
  have q3 : decide ((tsD ts).length ≤ 12) = true := by simpa using h12
  have q4 : (tsD ts).all (isTie n) = true := by
    rw [List.all_eq_true]
    intro x hx
    simp at hx
    obtain ⟨a, b, hp, rfl⟩ := hx
    obtain ⟨g1, g2, g3⟩ := h _ hp
    simp at g1 g2 g3
    simp [isTie, inR, g1, g2]
    omega
  show ((decide ((1 : Int) ≤ n) && decide ((n : Int) ≤ 8)) && (decide ((tsD ts).length ≤ 12) && (tsD ts).all (isTie n))) = _
  rw [q1, q2, q3, q4]
  rfl
theorem depL_ints (n : Nat) : ∀ l : List Nat, depL (n + 1) (nsD l) = true
  | [] => rfl
  | x :: l => depL_ints n l
theorem depL_ties (n : Nat) : ∀ l : List Tie, depL (n + 2) (tsD l) = true
  | [] => rfl
  | x :: l => depL_ties n l
theorem dep_web (k n : Nat) {ts : List Tie} (h : ts.length ≤ 1000) : dep (k + 4) (webD n ts) = true := by
  have h' : decide ((tsD ts).length ≤ 1000) = true := by simpa using h
  have e : dep (k + 3) (.tup (tsD ts)) = (decide ((tsD ts).length ≤ 1000) && depL (k + 2) (tsD ts)) := rfl
  show (true && (true && (dep (k + 3) (.tup (tsD ts)) && true))) = true
  rw [e, depL_ties, h']
  rfl
theorem tupsL_ints : ∀ l : List Nat, tupsL (nsD l) = nsD l
  | [] => rfl
  | x :: l => congrArg (D.int x :: ·) (tupsL_ints l)
theorem tupsL_ties : ∀ l : List Tie, tupsL (tsD l) = tsD l
  | [] => rfl
  | x :: l => congrArg (prD x :: ·) (tupsL_ties l)
theorem tups_web (n : Nat) (ts : List Tie) : tups (webD n ts) = webD n ts := by
  show D.tup [.int n, .tup (tupsL (tsD ts))] = _
  rw [tupsL_ties]
/-- a web as it is handed: of tuples, of lists -/
@[simp] def prL (p : Tie) : D := .lst [.int p.1, .int p.2]
abbrev webL (n : Nat) (ts : List Tie) : D := .lst [.int n, .lst (ts.map prL)]
theorem tupsL_prL : ∀ l : List Tie, tupsL (l.map prL) = tsD l
  | [] => rfl
  | x :: l => congrArg (prD x :: ·) (tupsL_prL l)
theorem depL_prL (n : Nat) : ∀ l : List Tie, depL (n + 2) (l.map prL) = true
  | [] => rfl
  | x :: l => depL_prL n l
theorem dep_webL (k n : Nat) {ts : List Tie} (h : ts.length ≤ 1000) : dep (k + 4) (webL n ts) = true := by
  have h' : decide ((ts.map prL).length ≤ 1000) = true := by simpa using h
  have e : dep (k + 3) (.lst (ts.map prL)) = (decide ((ts.map prL).length ≤ 1000) && depL (k + 2) (ts.map prL)) := rfl
  show (true && (true && (dep (k + 3) (.lst (ts.map prL)) && true))) = true
  rw [e, depL_prL, h']
  rfl
structure Hand (n : Nat) (ts : List Tie) (d : D) : Prop where
  dp : dep 12 d = true
  tu : tups d = webD n ts
theorem hand_t {n : Nat} {ts : List Tie} (h : ts.length ≤ 12) : Hand n ts (webD n ts) := ⟨dep_web 8 n (by omega), tups_web n ts⟩
theorem hand_l {n : Nat} {ts : List Tie} (h : ts.length ≤ 12) : Hand n ts (webL n ts) := ⟨dep_webL 8 n (by omega), by
  show D.tup [.int n, .tup (tupsL (ts.map prL))] = _
  rw [tupsL_prL]⟩
structure Web (n : Nat) (ts : List Tie) : Prop where
  n1 : 1 ≤ n
  n8 : n ≤ 8
  t12 : ts.length ≤ 12
  ok : ∀ p ∈ ts, OkT n p
theorem web_from_ok {w : Str} {n : Nat} {ts : List Tie} {d : D} (hd : Hand n ts d) (h : Web n ts) (hR : R (webD n ts) c) : Ψ_web_from gm [.str w, d] c R RX := by
  have e := isWeb_web h.n1 h.n8 h.t12 h.ok
  refine web_from hd.dp (fun _ => ?_) fun q => ?_
  · rw [hd.tu]; exact hR
  · rw [hd.tu, e] at q; cases q
/-- an end of a web map over a tie with such names -/
def endB (B : List Tie) (px py : Nat) : D → Bool
  | .tup [.int k, .bl bk] => decide (0 ≤ k) && (decide (k < B.length) && (match B[k.toNat]? with
    | some q => if bk = true then decide (q.1 = py) && decide (q.2 = px) else decide (q.1 = px) && decide (q.2 = py)
    | none => false))
  | _ => false
theorem eqv2 (a b x y : Int) : (PyData.tuple [.int a, .int b]).eqv (PyData.tuple [.int x, .int y]) = (decide (a = x) && decide (b = y)) := by
  simp only [PyData.eqv, PyData.eqvAll, Bool.and_true]
  by_cases h1 : a = x <;> by_cases h2 : b = y <;> simp [h1, h2]
theorem dcn (a b : Nat) : decide ((a : Int) = b) = decide (a = b) := decide_eq_decide.mpr (by omega)
theorem shp2 (a b : Int) : SeqAt.shaped (PyData.tuple [.int a, .int b]) = true := rfl
theorem end_is {N n i : Nat} {A B : List Tie} {ps : List Nat} {x y px py k : Nat} {e : D} (hA : A[i]? = some (x, y)) (hx : ps[x]? = some px) (hy : ps[y]? = some py) (he : dep (k + 2) e = true) (hR : R (.bl (endB B px py e)) c) : Ψ_is_end gm [webD N A, webD n B, .tup (nsD ps), .int i, e] c R RX := by
  refine ⟨rfl, ?_⟩
  have p0 := dep_pl he
  by_cases h2 : isTup 2 e = true
  · obtain ⟨a, b, rfl⟩ := isTup_2 h2
    have dl := (dep_tup he).1
    have pa := dep_pl (depL_mem dl a (by simp))
    have pb := dep_pl (depL_mem dl b (by simp))
    simp [tuple_of p0, h2, whole pa, atI0, atI1]
    cases a <;> simp [isI, endB] at pa hR ⊢ <;> try exact hR
    rename_i j
    rcases tyN_cases pb with rfl | ⟨z, rfl⟩ | ⟨z, rfl⟩ | ⟨z, rfl⟩ | ⟨z, rfl⟩ | ⟨z, rfl⟩ | ⟨z, z2, rfl⟩ <;> simp [isiN] at hR ⊢ <;> try exact hR
    by_cases j0 : 0 ≤ j
    · obtain ⟨j, rfl⟩ := Int.eq_ofNat_of_zero_le j0
      simp at hR ⊢
      by_cases jl : j < B.length
      · obtain ⟨q, hq⟩ : ∃ q, B[j]? = some q := ⟨B[j], by simp [jl]⟩
        rw [if_neg (by omega)]
        simp [atI_nat, hA, hx, hy, hq, atI0, atI1, jl] at hR ⊢
        cases z <;> simp [eqv2, shp2, dcn] at hR ⊢ <;> exact hR
      · rw [if_pos (by omega)]
        simpa [jl] using hR
    · simp [j0] at hR ⊢
      exact hR
  · have e0 : endB B px py e = false := by
      unfold endB
      split
      · simp [isTup] at h2
      · rfl
    rw [e0] at hR
    simp [tuple_of p0, h2]
    exact hR
/-- what is a web map -/
def wayB (N n : Nat) (A B : List Tie) (v : D) : Bool := match v with
  | .tup [.tup ns, .tup es] => decide (ns.length = N) && (ns.all (inR n) && (decide (es.length = A.length) && (List.range A.length).all fun i => match A[i]?, es[i]? with
    | some p, some e => (match ns[p.1]?, ns[p.2]? with
      | some (.int x), some (.int y) => endB B x.toNat y.toNat e
      | _, _ => false)
    | _, _ => false))
  | _ => false
theorem ns_of {n : Nat} : ∀ {l : List D}, l.all (inR n) = true → ∃ ps : List Nat, l = nsD ps ∧ ∀ p ∈ ps, p < n
  | [], _ => ⟨[], rfl, by simp⟩
  | d :: l, h => by
    rw [List.all_cons, Bool.and_eq_true] at h
    obtain ⟨ps, rfl, h2⟩ := ns_of h.2
    have h1 := h.1
    unfold inR at h1
    split at h1
    · rename_i i
      simp only [Bool.and_eq_true, decide_eq_true_eq] at h1
      obtain ⟨j, rfl⟩ := Int.eq_ofNat_of_zero_le h1.1
      refine ⟨j :: ps, rfl, ?_⟩
      intro p hp
      rcases List.mem_cons.mp hp with e | e
      · rw [e]; omega
      · exact h2 p e
    · cases h1
/-- with names that are told -/
theorem wayB_ns {N n : Nat} {A B : List Tie} {ps : List Nat} {es : List D} (hl : ps.length = N) (hp : ∀ p ∈ ps, p < n) (ha : ∀ p ∈ A, OkT N p) (he : es.length = A.length) : wayB N n A B (.tup [.tup (nsD ps), .tup es]) = (List.range A.length).all fun i => endB B (ps.getD (A.getD i (0, 0)).1 0) (ps.getD (A.getD i (0, 0)).2 0) (es.getD i .non) := by
  have h1 : (nsD ps).all (inR n) = true := by
    rw [List.all_eq_true]
    intro x hx
    obtain ⟨p, hp', rfl⟩ := List.mem_map.mp hx
    have := hp p hp'
    simp [inR, this]
  have h2 : decide ((nsD ps).length = N) = true := by simpa using hl
  show (decide ((nsD ps).length = N) && ((nsD ps).all (inR n) && (decide (es.length = A.length) && _))) = _
  rw [h1, h2, decide_eq_true he, Bool.true_and, Bool.true_and, Bool.true_and]
  apply Bool.eq_iff_iff.mpr
  rw [List.all_eq_true, List.all_eq_true]
  have key : ∀ i ∈ List.range A.length, (match A[i]?, es[i]? with
    | some p, some e => (match (nsD ps)[p.1]?, (nsD ps)[p.2]? with
      | some (.int x), some (.int y) => endB B x.toNat y.toNat e
      | _, _ => false)
    | _, _ => false) = endB B (ps.getD (A.getD i (0, 0)).1 0) (ps.getD (A.getD i (0, 0)).2 0) (es.getD i .non) := by
    intro i hi
    have hi : i < A.length := List.mem_range.mp hi
    have hi2 : i < es.length := by omega
    obtain ⟨o1, o2, _⟩ := ha A[i] (List.getElem_mem _)
    have g1 : A[i].1 < ps.length := by omega
    have g2 : A[i].2 < ps.length := by omega
    simp [hi, hi2, g1, g2]
  constructor
  · intro h i hi; rw [← key i hi]; exact h i hi
  · intro h i hi; rw [key i hi]; exact h i hi
theorem isTup_at {n : Int} {d : D} (h : isTup n d = true) : ∃ l, d = .tup l ∧ (l.length : Int) = n := by
  unfold isTup at h
  split at h
  · exact ⟨_, rfl, of_decide_eq_true h⟩
  · cases h
theorem bls_range (f : Nat → Bool) (n : Nat) : blsD ((List.range n).map fun i => .bl (f i)) = some ((List.range n).map f) := by
  have : ∀ l : List Nat, blsD (l.map fun i => .bl (f i)) = some (l.map f) := by
    intro l
    induction l with
    | nil => rfl
    | cons a l ih => simp [ih]
  exact this _
theorem way_is {N n k : Nat} {A B : List Tie} {v : D} (hA : Web N A) (hv : dep (k + 4) v = true) (hR : R (.bl (wayB N n A B v)) c) : Ψ_is_way gm [webD N A, webD n B, v] c R RX := by
  refine ⟨rfl, ?_⟩
  have p0 := dep_pl hv
  by_cases h2 : isTup 2 v = true
  · obtain ⟨a, b, rfl⟩ := isTup_2 h2
    have dl := (dep_tup hv).1
    have da := depL_mem dl a (by simp)
    have db := depL_mem dl b (by simp)
    have pa := dep_pl da
    have pb := dep_pl db
    simp [tuple_of p0, h2, tuple_of pa, tuple_of pb, atI0, atI1]
    by_cases ha : isTup N a = true
    · by_cases hb : isTup A.length b = true
      · rw [if_pos ha, if_pos hb]
        obtain ⟨ns, rfl, hns⟩ := isTup_at ha
        obtain ⟨es, rfl, hes⟩ := isTup_at hb
        have hns : ns.length = N := by omega
        have hes : es.length = A.length := by omega
        obtain ⟨dns, lns⟩ := dep_tup da
        obtain ⟨des, les⟩ := dep_tup db
        show lcL _ _ _ _ _ _ _ _ _
        refine all_range (n := n) (by simp) lns (fun x hx => dep_pl (depL_mem dns x hx)) (fun x Q hQ => by simpa [atI0] using hQ) ?_
        refine ⟨_, bls_map _ _, ?_⟩
        by_cases hall : ns.all (inR n) = true
        · rw [if_neg (by
            intro z
            obtain ⟨x, hx, e⟩ := List.mem_map.mp z
            rw [List.all_eq_true.mp hall x hx] at e
            cases e)]
          obtain ⟨ps, rfl, hps⟩ := ns_of hall
          have hpl : ps.length = N := by simpa using hns
          rw [wayB_ns hpl hps hA.ok hes] at hR
          simp [atI1]
          refine lc_ind (fun acc l c' => c' = c ∧ ∃ done rest, es = done ++ rest ∧ l = enL done.length rest ∧ acc = (List.range done.length).map fun i => .bl (endB B (ps.getD (A.getD i (0, 0)).1 0) (ps.getD (A.getD i (0, 0)).2 0) (es.getD i .non))) ?_ ?_ _ _ _ ⟨rfl, [], es, rfl, rfl, rfl⟩
          · rintro acc c' ⟨rfl, done, rest, e1, e2, rfl⟩
            cases rest with
            | cons _ _ => simp at e2
            | nil =>
              refine ⟨_, bls_range _ _, ?_⟩
              have : done.length = A.length := by rw [e1] at hes; simpa using hes
              rw [this]
              refine cast (congrArg (fun b => R (.bl b) c') ?_) hR
              rw [List.all_map]
              rfl
          · rintro acc x xs c' K ⟨rfl, done, rest, e1, e2, rfl⟩ hK
            cases rest with
            | nil => simp at e2
            | cons z rest =>
              simp at e2
              obtain ⟨rfl, rfl⟩ := e2
              have hi : done.length < A.length := by rw [← hes, e1]; simp
              obtain ⟨o1, o2, _⟩ := hA.ok A[done.length] (List.getElem_mem _)
              have g1 : A[done.length].1 < ps.length := by omega
              have g2 : A[done.length].2 < ps.length := by omega
              have hz : es.getD done.length .non = z := by rw [e1]; simp
              simp
              refine end_is (k := k) (x := A[done.length].1) (y := A[done.length].2) (px := ps.getD A[done.length].1 0) (py := ps.getD A[done.length].2 0) (by simp [hi]) (by simp [g1]) (by simp [g2]) (depL_mem des z (by rw [e1]; simp)) ⟨by have := hA.t12; omega, hK _ _ ⟨rfl, done ++ [z], rest, by simp [e1], by simp, ?_⟩⟩
              rw [List.length_append, List.length_singleton, List.range_succ, List.map_append]
              simp [hi, e1]
        · have e0 : wayB N n A B (.tup [.tup ns, .tup es]) = false := by
            show (decide (ns.length = N) && (ns.all (inR n) && _)) = false
            rw [Bool.not_eq_true] at hall
            rw [hall]
            simp
          rw [e0] at hR
          rw [if_pos (by
            rw [Bool.not_eq_true] at hall
            obtain ⟨x, hx, e⟩ := List.all_eq_false.mp hall
            exact List.mem_map.mpr ⟨x, hx, by simpa using e⟩)]
          exact hR
      · obtain ⟨ns, rfl, hns⟩ := isTup_at ha
        have e0 : wayB N n A B (.tup [.tup ns, b]) = false := by
          cases b <;> try rfl
          rename_i es
          have hb : ¬ es.length = A.length := by intro z; exact hb (by simp [isTup, z])
          show (decide (ns.length = N) && (ns.all (inR n) && (decide (es.length = A.length) && _))) = false
          rw [decide_eq_false hb]
          simp
        rw [e0] at hR
        rw [if_pos ha, if_neg hb]
        exact hR
    · have e0 : wayB N n A B (.tup [a, b]) = false := by
        cases a <;> try rfl
        rename_i ns
        cases b <;> try rfl
        rename_i es
        have ha : ¬ ns.length = N := by intro z; exact ha (by simp [isTup, z])
        show (decide (ns.length = N) && _) = false
        rw [decide_eq_false ha]
        rfl
      rw [e0] at hR
      rw [if_neg ha]
      exact hR
  · have e0 : wayB N n A B v = false := by
      unfold wayB
      split
      · simp [isTup] at h2
      · rfl
    rw [e0] at hR
    simp [tuple_of p0, h2]
    exact hR
end K74
namespace K74
open PySem DL
open L2 (atI)
variable {gm : Gm} {c : Int} {R : D → Int → Prop} {RX : DX → Int → Prop}
theorem law_int {d : D} (hd : (tyN d).isSome = true) : Ψ__law_is_int gm [d] c R RX ↔ R (.bl (isI d)) c := by
  unfold Ψ__law_is_int
  cases d <;> simp at hd <;> simp [isI]
theorem all_range2 {v : Nat} {n : Int} {c : Int} {sl : List Slot} {χ : DE} {K : List D → S → Prop} {l : List D} (hv : v < sl.length) (hl : l.length ≤ 1000) (hp : ∀ x ∈ l, (tyN x).isSome = true) (hn : ∀ x (Q : D → S → Prop), Q (.int n) ⟨sl.set v (.d x), c⟩ → χ ⟨sl.set v (.d x), c⟩ Q)
    (h : K (l.map fun x => .bl (inR n x)) ⟨sl, c⟩) : lcL [v] (fun d s R => R (s.set v (.d d))) dYes (dAnd (dCall (Ψ__law_is_int gm) (fun _ _ => False) (aCons (dVar v) aNil)) (dChain (fun i j => decide (i ≤ j)) (fun i j => decide (i < j)) (dC (.int 0)) (dVar v) χ)) K sl [] l c := by
  refine lc_map (fun x => .bl (inR n x)) hv (by omega) (fun x hx Q hQ => ?_) h
  have e1 : (sl.set v (.d x))[v]? = some (.d x) := by simp [hv]
  simp [e1, law_int (hp x hx)]
  cases x <;> simp [isI, inR] at hQ ⊢ <;> (try exact hQ)
  split
  · rename_i h0
    exact hn _ _ (by simpa [h0] using hQ)
  · rename_i h0
    simpa [h0] using hQ
theorem neq2 (a b x y : Nat) : ((decide ((a : Int) = x) && decide ((b : Int) = y)) = true) ↔ (a = x ∧ b = y) := by
  rw [Bool.and_eq_true, decide_eq_true_iff, decide_eq_true_iff]
  omega
theorem lawway_is {N n k : Nat} {A B : List Tie} {v : D} (hA : Web N A) (hv : dep (k + 4) v = true) (hR : R (.bl (wayB N n A B v)) c) : Ψ__law_is_way gm [webD N A, webD n B, v] c R RX := by
  refine ⟨rfl, ?_⟩
  have p0 := dep_pl hv
  by_cases h2 : isTup 2 v = true
  · obtain ⟨a, b, rfl⟩ := isTup_2 h2
    have dl := (dep_tup hv).1
    have da := depL_mem dl a (by simp)
    have db := depL_mem dl b (by simp)
    have pa := dep_pl da
    have pb := dep_pl db
    have hA12 := hA.t12
    rcases tyN_cases pa with rfl | ⟨z, rfl⟩ | ⟨z, rfl⟩ | ⟨z, rfl⟩ | ⟨ns, rfl⟩ | ⟨z, rfl⟩ | ⟨z, z2, rfl⟩
    all_goals try (simp [atI0, atI1, isiN]; exact hR)
    rcases tyN_cases pb with rfl | ⟨z, rfl⟩ | ⟨z, rfl⟩ | ⟨z, rfl⟩ | ⟨es, rfl⟩ | ⟨z, rfl⟩ | ⟨z, z2, rfl⟩
    all_goals try (simp [atI0, atI1, isiN]; exact hR)
    obtain ⟨dns, lns⟩ := dep_tup da
    obtain ⟨des, les⟩ := dep_tup db
    simp [atI0, atI1, isiN]
    by_cases hns : ns.length = N
    · refine .inl ⟨by omega, ?_⟩
      refine all_range2 (n := n) (by simp) lns (fun x hx => dep_pl (depL_mem dns x hx)) (fun x Q hQ => by simpa [atI0] using hQ) ?_
      refine ⟨_, bls_map _ _, ?_⟩
      by_cases hall : ns.all (inR n) = true
      · rw [if_neg (by
          intro z
          obtain ⟨x, hx, e⟩ := List.mem_map.mp z
          rw [List.all_eq_true.mp hall x hx] at e
          cases e)]
        obtain ⟨ps, rfl, hps⟩ := ns_of hall
        have hpl : ps.length = N := by simpa using hns
        simp [atI1]
        by_cases hes : es.length = A.length
        · rw [wayB_ns hpl hps hA.ok hes] at hR
          refine .inl ⟨by omega, ?_⟩
          refine for_ind (fun l s => ∃ i x6 x7 x8, i ≤ A.length ∧ l = zipL ((tsD A).drop i) (es.drop i) ∧ (∀ j, j < i → endB B (ps.getD (A.getD j (0, 0)).1 0) (ps.getD (A.getD j (0, 0)).2 0) (es.getD j .non) = true) ∧ s = ⟨[.d (webD N A), .d (webD n B), .d (.tup [.tup (nsD ps), .tup es]), .d (.tup (nsD ps)), .d (.tup es), .no, x6, x7, x8], c⟩) ?_ ?_ _ _ ⟨0, _, _, _, by omega, rfl, fun j hj => absurd hj (by omega), rfl⟩
          · rintro s ⟨i, x6, x7, x8, hi, e, hj, rfl⟩
            have hi : i = A.length := by
              have := congrArg List.length e
              rw [zipL_len] at this
              simp at this
              omega
            subst hi
            simp
            refine cast (congrArg (fun b => R (.bl b) c) ?_) hR
            rw [List.all_eq_true]
            intro j hj'
            exact hj j (List.mem_range.mp hj')
          · rintro x xs s K ⟨i, x6, x7, x8, hi, e, hj, rfl⟩ hK
            have hi : i < A.length := by
              by_cases q : i < A.length
              · exact q
              · have := congrArg List.length e
                rw [zipL_len] at this
                simp at this
                omega
            obtain ⟨o1, o2, _⟩ := hA.ok A[i] (List.getElem_mem _)
            have g1 : A[i].1 < ps.length := by omega
            have g2 : A[i].2 < ps.length := by omega
            have hi2 : i < es.length := by omega
            rw [List.drop_eq_getElem_cons (by simpa using hi), List.drop_eq_getElem_cons hi2] at e
            simp only [zipL, List.cons.injEq] at e
            obtain ⟨rfl, rfl⟩ := e
            have no : endB B (ps.getD A[i].1 0) (ps.getD A[i].2 0) es[i] = false → R (.bl false) c := fun hz => by
              refine cast (congrArg (fun b => R (.bl b) c) ?_) hR
              rw [List.all_eq_false]
              exact ⟨i, List.mem_range.mpr hi, by simp only [List.getD_eq_getElem?_getD, List.getElem?_eq_getElem hi, List.getElem?_eq_getElem hi2, Option.getD_some] at hz ⊢; rw [hz]; simp⟩
            have yes : ∀ s2, endB B (ps.getD A[i].1 0) (ps.getD A[i].2 0) es[i] = true → (∃ x6 x7 x8, s2 = ⟨[.d (webD N A), .d (webD n B), .d (.tup [.tup (nsD ps), .tup es]), .d (.tup (nsD ps)), .d (.tup es), .no, x6, x7, x8], c⟩) → K s2 := fun s2 hz ⟨x6, x7, x8, e⟩ => hK s2 ⟨i + 1, x6, x7, x8, by omega, rfl, fun j hj' => by
              by_cases q : j = i
              · subst q
                simp only [List.getD_eq_getElem?_getD, List.getElem?_eq_getElem hi, List.getElem?_eq_getElem hi2, Option.getD_some] at hz ⊢
                exact hz
              · exact hj j (by omega), e⟩
            have de := depL_mem des es[i] (List.getElem_mem _)
            have h1 : (nsD ps)[A[i].1]? = some (.int (ps.getD A[i].1 0 : Nat)) := by simp [g1]
            have h2 : (nsD ps)[A[i].2]? = some (.int (ps.getD A[i].2 0 : Nat)) := by simp [g2]
            generalize ps.getD A[i].1 0 = px at *
            generalize ps.getD A[i].2 0 = py at *
            generalize es[i] = e at *
            have pe := dep_pl de
            rcases tyN_cases pe with rfl | ⟨z, rfl⟩ | ⟨z, rfl⟩ | ⟨z, rfl⟩ | ⟨z, rfl⟩ | ⟨z, rfl⟩ | ⟨z, z2, rfl⟩
            all_goals try (simp [isiN]; exact no rfl)
            by_cases e2 : isTup 2 (.tup z) = true
            · obtain ⟨a, b, e3⟩ := isTup_2 e2
              cases e3
              have dl := (dep_tup de).1
              have pa := dep_pl (depL_mem dl a (by simp))
              have pb := dep_pl (depL_mem dl b (by simp))
              simp [isiN, atI0, atI1, law_int pa]
              cases a <;> simp [isI] at pa ⊢ <;> try exact no rfl
              rename_i j
              rcases tyN_cases pb with rfl | ⟨z, rfl⟩ | ⟨z, rfl⟩ | ⟨z, rfl⟩ | ⟨z, rfl⟩ | ⟨z, rfl⟩ | ⟨z, z2, rfl⟩ <;> simp [isiN] <;> try exact no rfl
              by_cases j0 : 0 ≤ j
              · obtain ⟨j, rfl⟩ := Int.eq_ofNat_of_zero_le j0
                simp
                by_cases jl : j < B.length
                · obtain ⟨q, hq⟩ : ∃ q, B[j]? = some q := ⟨B[j], by simp [jl]⟩
                  have hj : B[j] = q := by rw [List.getElem?_eq_getElem jl] at hq; exact Option.some.inj hq
                  rw [if_neg (by omega)]
                  simp [atI_nat, h1, h2, hq, jl, atI0, atI1]
                  have fin : ∀ (a b u v : Nat) (s1 : S), (endB B px py (.tup [.int j, .bl z]) = (decide (a = u) && decide (b = v))) → (∃ x6 x7 x8, s1 = ⟨[.d (webD N A), .d (webD n B), .d (.tup [.tup (nsD ps), .tup es]), .d (.tup (nsD ps)), .d (.tup es), .no, x6, x7, x8], c⟩) → ((PyData.tuple [.int a, .int b]).eqv (PyData.tuple [.int u, .int v]) = true ∧ K s1) ∨ ((PyData.tuple [.int a, .int b]).eqv (PyData.tuple [.int u, .int v]) = false ∧ R (.bl false) c) := by
                    intro a b u v s1 he hs1
                    rw [eqv2, dcn, dcn, ← he]
                    cases q2 : endB B px py (.tup [.int j, .bl z]) with
                    | true => exact .inl ⟨rfl, yes s1 q2 hs1⟩
                    | false => exact .inr ⟨rfl, no q2⟩
                  cases z
                  · rw [if_neg (by decide)]
                    exact ⟨rfl, rfl, fin _ _ _ _ _ (by simp [endB, jl]) ⟨_, _, _, rfl⟩⟩
                  · rw [if_pos rfl]
                    exact ⟨rfl, rfl, fin _ _ _ _ _ (by simp [endB, jl]) ⟨_, _, _, rfl⟩⟩
                · rw [if_pos (by omega)]
                  exact no (by simp [endB, jl])
              · simp [j0]
                exact no (by simp [endB, j0])
            · have hz : ¬ (z.length : Int) = 2 := by simpa [isTup] using e2
              simp [isiN, hz]
              refine no ?_
              unfold endB
              split
              · rename_i e4; cases e4; simp at hz
              · rfl
        · have e0 : wayB N n A B (.tup [.tup (nsD ps), .tup es]) = false := by
            show (decide ((nsD ps).length = N) && ((nsD ps).all (inR n) && (decide (es.length = A.length) && _))) = false
            rw [decide_eq_false hes]
            simp
          rw [e0] at hR
          exact .inr ⟨by omega, hR⟩
      · have e0 : wayB N n A B (.tup [.tup ns, .tup es]) = false := by
          show (decide (ns.length = N) && (ns.all (inR n) && _)) = false
          rw [Bool.not_eq_true] at hall
          rw [hall]
          simp
        rw [e0] at hR
        rw [if_pos (by
          rw [Bool.not_eq_true] at hall
          obtain ⟨x, hx, e⟩ := List.all_eq_false.mp hall
          exact List.mem_map.mpr ⟨x, hx, by simpa using e⟩)]
        exact hR
    · have e0 : wayB N n A B (.tup [.tup ns, .tup es]) = false := by
        show (decide (ns.length = N) && _) = false
        rw [decide_eq_false hns]
        rfl
      rw [e0] at hR
      exact .inr ⟨by omega, hR⟩
  · have e0 : wayB N n A B v = false := by
      unfold wayB
      split
      · simp [isTup] at h2
      · rfl
    rw [e0] at hR
    rcases tyN_cases p0 with rfl | ⟨z, rfl⟩ | ⟨z, rfl⟩ | ⟨z, rfl⟩ | ⟨z, rfl⟩ | ⟨z, rfl⟩ | ⟨z, z2, rfl⟩ <;> simp [isiN] <;> try exact hR
    have hz : ¬ (z.length : Int) = 2 := by simpa [isTup] using h2
    simp [hz]
    exact hR
end K74
namespace K74
open PySem DL
open L2 (atI)
variable {gm : Gm} {c : Int} {R : D → Int → Prop} {RX : DX → Int → Prop}
/-! ### covers -/
abbrev Up := Tie × Nat × Bool
@[simp] def endD (e : Nat × Bool) : D := .tup [.int e.1, .bl e.2]
abbrev wayD (ps : List Nat) (Z : List Up) : D := .tup [.tup (nsD ps), .tup (Z.map fun z => endD z.2)]
@[simp] def sdT (side : Nat) (p : Tie) : Nat := if side = 0 then p.1 else p.2
@[simp] def hit (t side place : Nat) (z : Up) : Bool := decide (z.2.1 = t) && decide (sdT (if z.2.2 = true then 1 - side else side) z.1 = place)
abbrev cnt (t side place : Nat) (Z : List Up) : Nat := Z.countP (hit t side place)
def covB (N : Nat) (ps : List Nat) (B : List Tie) (Z : List Up) : Bool := (List.range N).all fun place => (List.range B.length).all fun t => (List.range 2).all fun side => !decide (sdT side (B.getD t (0, 0)) = ps.getD place 0) || decide (cnt t side place Z = 1)
theorem covB_no {N : Nat} {ps : List Nat} {B : List Tie} {Z : List Up} {place t side : Nat} (h1 : place < N) (h2 : t < B.length) (h3 : side < 2) (h4 : sdT side (B.getD t (0, 0)) = ps.getD place 0) (h5 : cnt t side place Z ≠ 1) : covB N ps B Z = false := by
  unfold covB
  rw [List.all_eq_false]
  refine ⟨place, List.mem_range.mpr h1, ?_⟩
  rw [Bool.not_eq_true, List.all_eq_false]
  refine ⟨t, List.mem_range.mpr h2, ?_⟩
  rw [Bool.not_eq_true, List.all_eq_false]
  refine ⟨side, List.mem_range.mpr h3, ?_⟩
  rw [decide_eq_true h4, decide_eq_false h5]
  decide
theorem covB_yes {N : Nat} {ps : List Nat} {B : List Tie} {Z : List Up} (h : ∀ place t side, place < N → t < B.length → side < 2 → sdT side (B.getD t (0, 0)) = ps.getD place 0 → cnt t side place Z = 1) : covB N ps B Z = true := by
  unfold covB
  rw [List.all_eq_true]
  intro place hp
  rw [List.all_eq_true]
  intro t ht
  rw [List.all_eq_true]
  intro side hs
  rw [List.mem_range] at hp ht hs
  by_cases q : sdT side (B.getD t (0, 0)) = ps.getD place 0
  · rw [decide_eq_true (h place t side hp ht hs q)]; simp
  · rw [decide_eq_false q]; rfl
def fnd (t side place : Nat) : Nat → List Up → List D
  | _, [] => []
  | i, z :: zs => (if hit t side place z = true then [.int i] else []) ++ fnd t side place (i + 1) zs
theorem fnd_len (t side place : Nat) : ∀ (Z : List Up) (i : Nat), (fnd t side place i Z).length = cnt t side place Z
  | [], _ => rfl
  | z :: zs, i => by
    have ih := fnd_len t side place zs (i + 1)
    unfold fnd
    have e : cnt t side place (z :: zs) = cnt t side place zs + if hit t side place z = true then 1 else 0 := List.countP_cons
    rw [e, List.length_append, ih]
    split <;> simp only [List.length_cons, List.length_nil] <;> omega
theorem fnd_app (t side place : Nat) : ∀ (Z Z2 : List Up) (i : Nat), fnd t side place i (Z ++ Z2) = fnd t side place i Z ++ fnd t side place (i + Z.length) Z2
  | [], _, _ => by simp [fnd]
  | z :: zs, Z2, i => by
    have e : i + 1 + zs.length = i + (zs.length + 1) := by omega
    rw [List.cons_append, fnd, fnd, fnd_app t side place zs Z2 (i + 1), List.append_assoc, e]
    rfl
theorem ends_ok {N t side place : Nat} {ps : List Nat} {Z : List Up} (hs : side < 2) (hZ : Z.length ≤ 12) (hR : R (.lst (fnd t side place 0 Z)) c) : Ψ_ends_over gm [webD N (Z.map Prod.fst), wayD ps Z, .int place, .int t, .int side] c R RX := by
  refine ⟨rfl, ?_⟩
  simp [atI1]
  refine for_ind (fun l s => ∃ done rest x6 x7 x8 x9, Z = done ++ rest ∧ l = enL done.length (tsD (rest.map Prod.fst)) ∧ s = ⟨[.d (webD N (Z.map Prod.fst)), .d (wayD ps Z), .d (.int place), .d (.int t), .d (.int side), .own (.l (fnd t side place 0 done)), x6, x7, x8, x9], c⟩) ?_ ?_ _ _ ⟨[], Z, _, _, _, _, rfl, by simp, rfl⟩
  · rintro s ⟨done, rest, x6, x7, x8, x9, e1, e2, rfl⟩
    cases rest with
    | cons _ _ => simp at e2
    | nil =>
      simp at e1
      subst e1
      simpa using hR
  · rintro x xs s K ⟨done, rest, x6, x7, x8, x9, e1, e2, rfl⟩ hK
    cases rest with
    | nil => simp at e2
    | cons z rest =>
      simp at e2
      obtain ⟨rfl, rfl⟩ := e2
      have hz : Z[done.length]? = some z := by rw [e1]; simp
      have hl : (fnd t side place 0 done).length < 10000 := by
        have h1 := fnd_len t side place done 0
        have h2 := congrArg List.length e1
        have h3 : cnt t side place done ≤ done.length := List.countP_le_length
        simp at h2
        omega
      have q := hK ⟨[.d (webD N (Z.map Prod.fst)), .d (wayD ps Z), .d (.int place), .d (.int t), .d (.int side), .own (.l (fnd t side place 0 (done ++ [z]))), .d (.int done.length), .d (prD z.1), .d (.int z.2.1), .d (.bl z.2.2)], c⟩ ⟨done ++ [z], rest, _, _, _, _, by simp [e1], by simp, rfl⟩
      rw [fnd_app] at q
      simp only [fnd, Nat.zero_add, List.append_nil] at q
      obtain ⟨⟨x, y⟩, u, bk⟩ := z
      rcases (show side = 0 ∨ side = 1 by omega) with rfl | rfl <;> cases bk
      all_goals
        simp [atI0, atI1, atI_nat, hz]
        by_cases g : u = t
        · have g' : (u : Int) = t := by omega
          rw [if_pos g']
          split
          · rename_i g2
            rw [if_pos (by simp [g]; omega)] at q
            exact ⟨hl, q⟩
          · rename_i g2
            rw [if_neg (by simp [g]; omega), List.append_nil] at q
            exact q
        · have g' : ¬ (u : Int) = t := by omega
          rw [if_neg g']
          rw [if_neg (by simp [g]), List.append_nil] at q
          exact q
/-- a cover's look: the program's -/
theorem coverby_is {N n : Nat} {B : List Tie} {ps : List Nat} {Z : List Up} (hps : ps.length = N) (hN : N ≤ 8) (hB : B.length ≤ 12) (hZ : Z.length ≤ 12) (hR : R (.bl (covB N ps B Z)) c) : Ψ_is_cover_by gm [webD N (Z.map Prod.fst), webD n B, wayD ps Z] c R RX := by
  refine ⟨rfl, ?_⟩
  simp [atI0]
  refine ⟨by omega, for_rg (fun k s => (∀ place t side, place < k → t < B.length → side < 2 → sdT side (B.getD t (0, 0)) = ps.getD place 0 → cnt t side place Z = 1) ∧ ∃ x3 x4 x5 x6, s = ⟨[.d (webD N (Z.map Prod.fst)), .d (webD n B), .d (wayD ps Z), x3, x4, x5, x6], c⟩) ⟨fun _ _ _ h => absurd h (by omega), _, _, _, _, rfl⟩ ?_ ?_⟩
  · rintro s ⟨h, x3, x4, x5, x6, rfl⟩
    rw [covB_yes h] at hR
    simpa using hR
  · rintro k s K hk ⟨h, x3, x4, x5, x6, rfl⟩ hK
    have hk2 : k < ps.length := by omega
    simp [atI1]
    refine for_en (f := prD) (fun j s => (∀ t side, t < j → side < 2 → sdT side (B.getD t (0, 0)) = ps.getD k 0 → cnt t side k Z = 1) ∧ ∃ x4 x5 x6, s = ⟨[.d (webD N (Z.map Prod.fst)), .d (webD n B), .d (wayD ps Z), .d (.int k), x4, x5, x6], c⟩) ⟨fun _ _ h => absurd h (by omega), _, _, _, rfl⟩ ?_ ?_
    · rintro s ⟨h2, x4, x5, x6, rfl⟩
      refine hK _ ⟨fun place t side hp ht hs e => ?_, _, _, _, _, rfl⟩
      by_cases q : place = k
      · subst q; exact h2 t side ht hs e
      · exact h place t side (by omega) ht hs e
    · rintro t p s K hp ⟨h2, x4, x5, x6, rfl⟩ hK
      have ht : t < B.length := (List.getElem?_eq_some_iff.mp hp).1
      have hpt : B.getD t (0, 0) = p := by rw [List.getD_eq_getElem?_getD, hp]; rfl
      simp
      refine for_rg (fun j s => (∀ side, side < j → sdT side p = ps.getD k 0 → cnt t side k Z = 1) ∧ ∃ x6, s = ⟨[.d (webD N (Z.map Prod.fst)), .d (webD n B), .d (wayD ps Z), .d (.int k), .d (.int t), .d (prD p), x6], c⟩) ⟨fun _ h => absurd h (by omega), _, rfl⟩ ?_ ?_
      · rintro s ⟨h3, x6, rfl⟩
        refine hK _ ⟨fun t' side ht' hs e => ?_, _, _, _, rfl⟩
        by_cases q : t' = t
        · subst q; rw [hpt] at e; exact h3 side hs e
        · exact h2 t' side (by omega) hs e
      · rintro side s K hs ⟨h3, x6, rfl⟩ hK
        have fin : (sdT side p = ps.getD k 0 → cnt t side k Z = 1) → K ⟨[.d (webD N (Z.map Prod.fst)), .d (webD n B), .d (wayD ps Z), .d (.int k), .d (.int t), .d (prD p), .d (.int side)], c⟩ := fun hx => hK _ ⟨fun side' hs' e => by
          by_cases q : side' = side
          · subst q; exact hx e
          · exact h3 side' (by omega) e, _, rfl⟩
        have no : sdT side p = ps.getD k 0 → cnt t side k Z ≠ 1 → R (.bl false) c := fun h4 h5 => by
          rw [covB_no hk ht hs (by rw [hpt]; exact h4) h5] at hR
          exact hR
        have hpk : ps[k]? = some (ps.getD k 0) := by simp [hk2]
        generalize ps.getD k 0 = pk at *
        have key : sdT side p = pk → ((((fnd t side k 0 Z).length : Nat) : Int) = 1 ∧ K ⟨[.d (webD N (Z.map Prod.fst)), .d (webD n B), .d (wayD ps Z), .d (.int k), .d (.int t), .d (prD p), .d (.int side)], c⟩) ∨ (¬ (((fnd t side k 0 Z).length : Nat) : Int) = 1 ∧ R (.bl false) c) := fun e => by
          rw [fnd_len]
          by_cases q : cnt t side k Z = 1
          · exact .inl ⟨by omega, fin fun _ => q⟩
          · exact .inr ⟨by omega, no e q⟩
        rcases (show side = 0 ∨ side = 1 by omega) with rfl | rfl
        all_goals
          simp [atI0, atI1, atI_nat, hpk]
          split
          · rename_i g
            refine ends_ok (by omega) hZ ?_
            exact key (by simp; omega)
          · rename_i g
            exact fin fun e => absurd e (by simp; omega)
end K74
namespace K74
open PySem DL
open L2 (atI)
variable {gm : Gm} {c : Int} {R : D → Int → Prop} {RX : DX → Int → Prop}
/-- a cover's look: the law's -/
theorem lawcovers_is {N n : Nat} {B : List Tie} {ps : List Nat} {Z : List Up} (hps : ps.length = N) (hN : N ≤ 8) (hB : B.length ≤ 12) (hZ : Z.length ≤ 12) (hR : R (.bl (covB N ps B Z)) c) : Ψ__law_covers gm [webD N (Z.map Prod.fst), webD n B, wayD ps Z] c R RX := by
  refine ⟨rfl, ?_⟩
  simp [atI0]
  refine ⟨by omega, for_rg (fun k s => (∀ place t side, place < k → t < B.length → side < 2 → sdT side (B.getD t (0, 0)) = ps.getD place 0 → cnt t side place Z = 1) ∧ ∃ x3 x4 x5 x6 x7 x8, s = ⟨[.d (webD N (Z.map Prod.fst)), .d (webD n B), .d (wayD ps Z), x3, x4, x5, x6, x7, x8], c⟩) ⟨fun _ _ _ h => absurd h (by omega), _, _, _, _, _, _, rfl⟩ ?_ ?_⟩
  · rintro s ⟨h, x3, x4, x5, x6, x7, x8, rfl⟩
    rw [covB_yes h] at hR
    simpa using hR
  · rintro k s K hk ⟨h, x3, x4, x5, x6, x7, x8, rfl⟩ hK
    have hk2 : k < ps.length := by omega
    simp [atI1]
    refine ⟨by omega, for_rg (fun j s => (∀ t side, t < j → side < 2 → sdT side (B.getD t (0, 0)) = ps.getD k 0 → cnt t side k Z = 1) ∧ ∃ x4 x5 x6 x7 x8, s = ⟨[.d (webD N (Z.map Prod.fst)), .d (webD n B), .d (wayD ps Z), .d (.int k), x4, x5, x6, x7, x8], c⟩) ⟨fun _ _ h => absurd h (by omega), _, _, _, _, _, rfl⟩ ?_ ?_⟩
    · rintro s ⟨h2, x4, x5, x6, x7, x8, rfl⟩
      refine hK _ ⟨fun place t side hp ht hs e => ?_, _, _, _, _, _, _, rfl⟩
      by_cases q : place = k
      · subst q; exact h2 t side ht hs e
      · exact h place t side (by omega) ht hs e
    · rintro t s K ht ⟨h2, x4, x5, x6, x7, x8, rfl⟩ hK
      obtain ⟨p, hp⟩ : ∃ p, B[t]? = some p := ⟨B[t], by simp [ht]⟩
      have hpt : B.getD t (0, 0) = p := by rw [List.getD_eq_getElem?_getD, hp]; rfl
      simp only [dFor, dSeq2, dTup, aCons, aNil, dC]
      rw [show [D.int 0, D.int 1] = ((List.range 2).map fun i : Nat => D.int i) from rfl]
      refine ⟨by simp, ?_⟩
      refine for_rg (fun j s => (∀ side, side < j → sdT side p = ps.getD k 0 → cnt t side k Z = 1) ∧ ∃ x5 x6 x7 x8, s = ⟨[.d (webD N (Z.map Prod.fst)), .d (webD n B), .d (wayD ps Z), .d (.int k), .d (.int t), x5, x6, x7, x8], c⟩) ⟨fun _ h => absurd h (by omega), _, _, _, _, rfl⟩ ?_ ?_
      · rintro s ⟨h3, x5, x6, x7, x8, rfl⟩
        refine hK _ ⟨fun t' side ht' hs e => ?_, _, _, _, _, _, rfl⟩
        by_cases q : t' = t
        · subst q; rw [hpt] at e; exact h3 side hs e
        · exact h2 t' side (by omega) hs e
      · rintro side s K hs ⟨h3, x5, x6, x7, x8, rfl⟩ hK
        have fin : ∀ x6 x7 x8, (sdT side p = ps.getD k 0 → cnt t side k Z = 1) → K ⟨[.d (webD N (Z.map Prod.fst)), .d (webD n B), .d (wayD ps Z), .d (.int k), .d (.int t), .d (.int side), x6, x7, x8], c⟩ := fun x6 x7 x8 hx => hK _ ⟨fun side' hs' e => by
          by_cases q : side' = side
          · subst q; exact hx e
          · exact h3 side' (by omega) e, _, _, _, _, rfl⟩
        have no : sdT side p = ps.getD k 0 → cnt t side k Z ≠ 1 → R (.bl false) c := fun h4 h5 => by
          rw [covB_no hk ht hs (by rw [hpt]; exact h4) h5] at hR
          exact hR
        have hpk : ps[k]? = some (ps.getD k 0) := by simp [hk2]
        generalize ps.getD k 0 = pk at *
        have loop : ∀ (E : DEn), (∀ x7 x8, E.nx ⟨[.d (webD N (Z.map Prod.fst)), .d (webD n B), .d (wayD ps Z), .d (.int k), .d (.int t), .d (.int side), .d (.int (cnt t side k Z : Nat)), x7, x8], c⟩) → ∀ x7 x8, dForL (gTp 2 (gsC (fun d s R => R (s.set 7 (.d d))) (gsC (fun d s R => R (s.set 8 (.d d))) gsN))) (dIfS ((tAndD (tCm oEq (dOp oIx (dVar 8) (dC (.int 0))) (dVar 4)) (tCm oEq (dOp oIx (dVar 7) (dIf (tBool (dOp oIx (dVar 8) (dC (.int 1)))) (dOp (oI0 fun i j => .int (i - j)) (dC (.int 1)) (dVar 5)) (dVar 5))) (dVar 3)))) (dSet 6 (dOp oAddX (dVar 6) (dC (.int 1)))) (dNext)) E (zipL (Z.map (prD ∘ Prod.fst)) (Z.map fun z => .tup [.int z.2.1, .bl z.2.2])) ⟨[.d (webD N (Z.map Prod.fst)), .d (webD n B), .d (wayD ps Z), .d (.int k), .d (.int t), .d (.int side), .d (.int 0), x7, x8], c⟩ := by
          intro E hE x7 x8
          refine for_ind (fun l s => ∃ done rest x7 x8, Z = done ++ rest ∧ l = zipL (rest.map (prD ∘ Prod.fst)) (rest.map fun z => .tup [.int z.2.1, .bl z.2.2]) ∧ s = ⟨[.d (webD N (Z.map Prod.fst)), .d (webD n B), .d (wayD ps Z), .d (.int k), .d (.int t), .d (.int side), .d (.int (cnt t side k done : Nat)), x7, x8], c⟩) ?_ ?_ _ _ ⟨[], Z, _, _, rfl, rfl, rfl⟩
          · rintro s ⟨done, rest, x7, x8, e1, e2, rfl⟩
            cases rest with
            | cons _ _ => simp at e2
            | nil =>
              simp at e1
              subst e1
              exact hE _ _
          · rintro x xs s K ⟨done, rest, x7, x8, e1, e2, rfl⟩ hK
            cases rest with
            | nil => simp at e2
            | cons z rest =>
              simp at e2
              obtain ⟨rfl, rfl⟩ := e2
              have q := fun x7 x8 => hK ⟨[.d (webD N (Z.map Prod.fst)), .d (webD n B), .d (wayD ps Z), .d (.int k), .d (.int t), .d (.int side), .d (.int (cnt t side k (done ++ [z]) : Nat)), x7, x8], c⟩ ⟨done ++ [z], rest, x7, x8, by simp [e1], rfl, rfl⟩
              have cz : cnt t side k (done ++ [z]) = cnt t side k done + if hit t side k z = true then 1 else 0 := by
                rw [cnt, List.countP_append, List.countP_singleton]
              rw [cz] at q
              obtain ⟨⟨x, y⟩, u, bk⟩ := z
              rcases (show side = 0 ∨ side = 1 by omega) with rfl | rfl <;> cases bk
              all_goals
                simp [atI0, atI1]
                by_cases g : u = t
                · have g' : (u : Int) = t := by omega
                  rw [if_pos g']
                  split
                  · rename_i g2
                    rw [if_pos (by simp [g]; omega)] at q
                    exact q _ _
                  · rename_i g2
                    rw [if_neg (by simp [g]; omega)] at q
                    exact q _ _
                · have g' : ¬ (u : Int) = t := by omega
                  rw [if_neg g']
                  rw [if_neg (by simp [g])] at q
                  exact q _ _
        have key : sdT side p = pk → ∀ x7 x8, (((cnt t side k Z : Nat) : Int) = 1 ∧ K ⟨[.d (webD N (Z.map Prod.fst)), .d (webD n B), .d (wayD ps Z), .d (.int k), .d (.int t), .d (.int side), .d (.int (cnt t side k Z : Nat)), x7, x8], c⟩) ∨ (¬ ((cnt t side k Z : Nat) : Int) = 1 ∧ R (.bl false) c) := fun e x7 x8 => by
          by_cases q : cnt t side k Z = 1
          · exact .inl ⟨by omega, fin _ _ _ fun _ => q⟩
          · exact .inr ⟨by omega, no e q⟩
        by_cases g : sdT side p = pk
        · rcases (show side = 0 ∨ side = 1 by omega) with rfl | rfl
          all_goals
            simp [atI0, atI1, atI_nat, hpk, hp]
            exact .inl ⟨by simp at g; omega, loop _ (fun x7 x8 => key g x7 x8) _ _⟩
        · rcases (show side = 0 ∨ side = 1 by omega) with rfl | rfl
          all_goals
            simp [atI0, atI1, atI_nat, hpk, hp]
            exact .inr ⟨by simp at g; omega, fin _ _ _ fun e => absurd e g⟩
end K74
namespace K74
open PySem DL
open L2 (atI)
variable {gm : Gm} {c : Int} {R : D → Int → Prop} {RX : DX → Int → Prop}
/-! ### what is drawn -/
theorem draw {m : Int} (h0 : 0 < m) (h1 : m < 1000) (c0 : 0 ≤ c) (c1 : c < 500000000000) (h : ∀ r, 0 ≤ r → r < m → R (.int r) (c + 1)) : Ψ__law_draw gm [.int m] c R RX :=
  ⟨m, rfl, h0, by omega, c0, by omega, h⟩
theorem pick {xs : List D} (hx : xs ≠ []) (hl : xs.length < 1000) (c0 : 0 ≤ c) (c1 : c < 500000000000) (h : ∀ x ∈ xs, R x (c + 1)) : Ψ__law_pick gm [.lst xs] c R RX := by
  refine ⟨rfl, ?_⟩
  have hp : 0 < xs.length := List.length_pos_iff.mpr hx
  simp
  refine draw (by omega) (by omega) c0 c1 fun r r0 r1 => ?_
  obtain ⟨k, rfl⟩ := Int.eq_ofNat_of_zero_le r0
  have hk : k < xs.length := by omega
  refine ⟨xs[k], ?_, h _ (List.getElem_mem _)⟩
  rw [atI_nat, List.getElem?_eq_getElem hk]
theorem eraseP : ∀ (l : List D) (i : Nat) (h : i < l.length), (l[i] :: l.eraseIdx i).Perm l
  | a :: l, 0, h => .refl _
  | a :: l, i + 1, h => by
    have h' : i < l.length := Nat.lt_of_succ_lt_succ h
    exact (List.Perm.swap a l[i] (l.eraseIdx i)).trans ((eraseP l i h').cons a)
theorem shuffled {xs : List D} (hl : xs.length < 100) (c0 : 0 ≤ c) (c1 : c < 400000000000) (h : ∀ ys : List D, ys.Perm xs → R (.lst ys) (c + xs.length)) : Ψ__law_shuffled gm [.lst xs] c R RX := by
  refine ⟨rfl, ?_⟩
  simp
  refine ⟨by omega, for_rg (fun k s => ∃ (l f : List D) (x4 : Slot), (f ++ l).Perm xs ∧ f.length = k ∧ s = ⟨[.pen, .d (.lst xs), .own (.l l), .own (.l f), x4], c + k⟩) ⟨xs, [], .no, by simp, rfl, by simp⟩ ?_ ?_⟩
  · rintro s ⟨l, f, x4, hp, hf, rfl⟩
    have := hp.length_eq
    simp at this
    have : l = [] := List.eq_nil_of_length_eq_zero (by omega)
    subst this
    rw [List.append_nil] at hp
    simpa using h f hp
  · rintro k s K hk ⟨l, f, x4, hp, hf, rfl⟩ hK
    have hlen := hp.length_eq
    simp at hlen
    simp
    refine draw (by omega) (by omega) (by omega) (by omega) fun r r0 r1 => ?_
    obtain ⟨i, rfl⟩ := Int.eq_ofNat_of_zero_le r0
    have hi : i < l.length := by omega
    simp [hi]
    refine ⟨by omega, by omega, ?_⟩
    have e : c + (k : Int) + 1 = c + ((k + 1 : Nat) : Int) := by omega
    rw [e]
    exact hK _ ⟨l.eraseIdx i, f ++ [l[i]], _, by
      refine List.Perm.trans ?_ hp
      rw [List.append_assoc]
      exact List.Perm.append_left f (eraseP l i hi), by simp [hf], rfl⟩
theorem two_first {n : Nat} (hn : 2 ≤ n) {ys : List D} (h : ys.Perm ((List.range n).map fun i : Nat => D.int i)) : ∃ p : Tie, OkT n p ∧ cutD ys none (some 2) = [.int p.1, .int p.2] := by
  have hl := h.length_eq
  simp at hl
  match ys, hl, h with
  | a :: b :: rest, hl, h =>
    have m : ∀ x ∈ a :: b :: rest, ∃ i : Nat, i < n ∧ x = .int i := by
      intro x hx
      have := h.mem_iff.mp hx
      simp at this
      obtain ⟨i, hi, rfl⟩ := this
      exact ⟨i, hi, rfl⟩
    obtain ⟨i, hi, rfl⟩ := m a (by simp)
    obtain ⟨j, hj, rfl⟩ := m b (by simp)
    have nd : ((List.range n).map fun i : Nat => D.int i).Nodup := by
      have : ∀ l : List Nat, l.Nodup → (l.map fun i : Nat => D.int i).Nodup := by
        intro l
        induction l with
        | nil => simp
        | cons a l ih =>
          intro hd
          rw [List.nodup_cons] at hd
          rw [List.map_cons, List.nodup_cons]
          refine ⟨fun q => ?_, ih hd.2⟩
          obtain ⟨y, hy, e⟩ := List.mem_map.mp q
          have : y = a := by cases e; rfl
          exact hd.1 (this ▸ hy)
      exact this _ List.nodup_range
    have nd2 := h.nodup_iff.mpr nd
    refine ⟨(i, j), ⟨hi, hj, fun e => ?_⟩, ?_⟩
    · simp only at e
      subst e
      simp at nd2
    · have e2 : min 2 (rest.length + 1 + 1) = 2 := by omega
      simp [cutD, HT.sIx, e2]
  | [], hl, _ => simp at hl; omega
  | [_], hl, _ => simp at hl; omega
theorem plain_web {most ties : Nat} (hm1 : 1 ≤ most) (hm8 : most ≤ 8) (ht : ties ≤ 12) (c0 : 0 ≤ c) (c1 : c < 300000000000) (h : ∀ (n : Nat) (ts : List Tie) (c' : Int), 1 ≤ n → n ≤ most → ts.length ≤ ties → (∀ p ∈ ts, OkT n p) → c ≤ c' → c' ≤ c + 100 → R (webD n ts) c') : Ψ__law_plain_web gm [.int most, .int ties] c R RX := by
  refine ⟨rfl, ?_⟩
  simp
  refine draw (by omega) (by omega) c0 (by omega) fun r r0 r1 => ?_
  obtain ⟨q, rfl⟩ := Int.eq_ofNat_of_zero_le r0
  simp
  split
  · rename_i h1
    refine draw (by omega) (by omega) (by omega) (by omega) fun r2 r20 r21 => ?_
    obtain ⟨k, rfl⟩ := Int.eq_ofNat_of_zero_le r20
    simp
    refine ⟨by omega, for_rg (fun k s => ∃ (ts : List Tie) (x5 : Slot) (c' : Int), ts.length = k ∧ (∀ p ∈ ts, OkT (q + 1) p) ∧ c + 2 ≤ c' ∧ c' ≤ c + 2 + 8 * k ∧ s = ⟨[.pen, .d (.int most), .d (.int ties), .d (.int (1 + q)), .own (.l (tsD ts)), x5], c'⟩) ⟨[], .no, c + 1 + 1, rfl, by simp, by omega, by omega, rfl⟩ ?_ ?_⟩
    · rintro s ⟨ts, x5, c', hl, ok, hc, hc2, rfl⟩
      simp
      have e : (1 : Int) + q = ((q + 1 : Nat) : Int) := by omega
      rw [e]
      exact h (q + 1) ts c' (by omega) (by omega) (by omega) ok (by omega) (by omega)
    · rintro i s K hi ⟨ts, x5, c', hl, ok, hc, hc2, rfl⟩ hK
      simp
      refine ⟨by omega, ?_⟩
      have e : ((1 : Int) + q).toNat = q + 1 := by omega
      rw [e]
      refine shuffled (by simp; omega) (by omega) (by omega) fun ys hp => ?_
      obtain ⟨p, ok2, e2⟩ := two_first (n := q + 1) (by omega) hp
      simp [e2]
      refine ⟨by omega, hK _ ⟨ts ++ [p], .d (.int i), c' + (q + 1 : Nat), by simp [hl], ?_, by omega, by omega, ?_⟩⟩
      · intro p' hp'
        rcases List.mem_append.mp hp' with z | z
        · exact ok p' z
        · simp at z; subst z; exact ok2
      · simp [S.set]
  · rename_i h1
    have h1 : q = 0 := by omega
    subst h1
    exact h 1 [] (c + 1) (by omega) (by omega) (by simp) (by simp) (by omega) (by omega)
end K74
namespace K74
open PySem DL
open L2 (atI)
variable {gm : Gm} {c : Int} {R : D → Int → Prop} {RX : DX → Int → Prop}
/-! ### webs above -/
structure WayOk (N n : Nat) (B : List Tie) (ps : List Nat) (Z : List Up) : Prop where
  web : Web N (Z.map Prod.fst)
  len : ps.length = N
  lt : ∀ p ∈ ps, p < n
  at_ : ∀ z ∈ Z, ∃ q, B[z.2.1]? = some q ∧ q = (if z.2.2 = true then (ps.getD z.1.2 0, ps.getD z.1.1 0) else (ps.getD z.1.1 0, ps.getD z.1.2 0))
theorem WayOk.z12 {N n : Nat} {B : List Tie} {ps : List Nat} {Z : List Up} (h : WayOk N n B ps Z) : Z.length ≤ 12 := by
  have := h.web.t12
  simpa using this
theorem way_true {N n : Nat} {B : List Tie} {ps : List Nat} {Z : List Up} (h : WayOk N n B ps Z) : wayB N n (Z.map Prod.fst) B (wayD ps Z) = true := by
  rw [wayB_ns h.len h.lt h.web.ok (by simp), List.all_eq_true]
  intro i hi
  have hi : i < Z.length := by simpa using hi
  obtain ⟨q, h1, h2⟩ := h.at_ Z[i] (List.getElem_mem _)
  have e1 : (Z.map Prod.fst).getD i (0, 0) = Z[i].1 := by simp [hi]
  have e2 : (Z.map fun z => endD z.2).getD i .non = endD Z[i].2 := by simp [hi]
  rw [e1, e2]
  have hk : Z[i].2.1 < B.length := (List.getElem?_eq_some_iff.mp h1).1
  generalize Z[i] = z at *
  obtain ⟨⟨x, y⟩, u, bk⟩ := z
  simp only [endB, endD, Int.toNat_natCast, h1]
  simp only at hk h2
  cases bk <;> simp [h2] <;> omega
theorem eqvE (l : List PyData) : (PyData.list l).eqv (.list []) = decide (l = []) := by
  cases l <;> simp [PyData.eqv, PyData.eqvAll]
theorem eqvE2 (l : List PyData) : (PyData.tuple l).eqv (.tuple []) = decide (l = []) := by
  cases l <;> simp [PyData.eqv, PyData.eqvAll]
theorem pyEs_ns : ∀ l : List Nat, pyEs (nsD l) = some (l.map fun s : Nat => PyData.int s)
  | [] => rfl
  | x :: l => by
    have ih := pyEs_ns l
    simp only [nsD, List.map_cons] at ih ⊢
    simp only [pyEs, pyE, ih]
theorem pyEs_ts : ∀ l : List Tie, pyEs (tsD l) = some (l.map fun p => PyData.tuple [.int p.1, .int p.2])
  | [] => rfl
  | x :: l => by
    have ih := pyEs_ts l
    simp only [tsD, List.map_cons] at ih ⊢
    simp only [pyEs, pyE, prD, ih]
    rfl
theorem shp_ts (l : List Tie) : SeqAt.shaped (PyData.tuple (l.map fun p => PyData.tuple [.int p.1, .int p.2])) = true := by
  have h : ∀ l : List Tie, PyData.canLayAll0 (l.map fun p => PyData.tuple [.int p.1, .int p.2]) = true ∧ PyData.depthAll (l.map fun p => PyData.tuple [.int p.1, .int p.2]) ≤ 1 := by
    intro l
    induction l with
    | nil => exact ⟨rfl, Nat.zero_le _⟩
    | cons a l ih =>
      obtain ⟨h1, h2⟩ := ih
      refine ⟨?_, ?_⟩
      · show (true && PyData.canLayAll0 _) = true
        rw [h1]; rfl
      · show max 1 (PyData.depthAll _) ≤ 1
        omega
  obtain ⟨h1, h2⟩ := h l
  show (PyData.canLayAll0 _ && decide (PyData.depthAll _ + 1 ≤ 64)) = true
  rw [h1, decide_eq_true (by omega)]
  rfl
theorem shp_ns (l : List Nat) : SeqAt.shaped (PyData.list (l.map fun s : Nat => PyData.int s)) = true := by
  have h : ∀ l : List Nat, PyData.canLayAll0 (l.map fun s : Nat => PyData.int s) = true ∧ PyData.depthAll (l.map fun s : Nat => PyData.int s) ≤ 0 := by
    intro l
    induction l with
    | nil => exact ⟨rfl, Nat.zero_le _⟩
    | cons a l ih =>
      obtain ⟨h1, h2⟩ := ih
      refine ⟨?_, ?_⟩
      · show (true && PyData.canLayAll0 _) = true
        rw [h1]; rfl
      · show max 0 (PyData.depthAll _) ≤ 0
        omega
  obtain ⟨h1, h2⟩ := h l
  show (PyData.canLayAll0 _ && decide (PyData.depthAll _ + 1 ≤ 64)) = true
  rw [h1, decide_eq_true (by omega)]
  rfl
theorem upon_ok {n : Nat} {B : List Tie} {most many : Nat} (hB : Web n B) (h1 : 1 ≤ most) (h8 : most ≤ 8) (h12 : many ≤ 12) (c0 : 0 ≤ c) (c1 : c < 200000000000) (h : ∀ (N : Nat) (ps : List Nat) (Z : List Up) (c' : Int), N ≤ most → Z.length ≤ many → WayOk N n B ps Z → c ≤ c' → c' ≤ c + 200 → R (.tup [webD N (Z.map Prod.fst), wayD ps Z]) c') : Ψ__law_upon gm [webD n B, .int most, .int many] c R RX := by
  have hn1 := hB.n1
  have hn8 := hB.n8
  refine ⟨rfl, ?_⟩
  simp [atI0]
  refine draw (by omega) (by omega) c0 (by omega) fun r r0 r1 => ?_
  obtain ⟨N', rfl⟩ := Int.eq_ofNat_of_zero_le r0
  simp
  have eN : ((1 : Int) + N').toNat = N' + 1 := by omega
  rw [eN]
  refine ⟨by omega, lc_ind (fun acc l c' => ∃ ps : List Nat, acc = nsD ps ∧ (∀ p ∈ ps, p < n) ∧ ps.length + l.length = N' + 1 ∧ c' = c + 1 + ps.length) ?_ ?_ _ _ _ ⟨[], rfl, by simp, by simp, by simp⟩⟩
  · rintro acc c' ⟨ps, rfl, hlt, hl, rfl⟩
    simp at hl
    have hl : ps.length = N' + 1 := hl
    simp [atI0, atI1]
    refine draw (c := c + 1 + ps.length) (by omega) (by omega) (by omega) (by omega) fun r r0 r1 => ?_
    obtain ⟨m, rfl⟩ := Int.eq_ofNat_of_zero_le r0
    simp
    refine ⟨by omega, for_rgb (fun k s => ∃ (Z : List Up) (x8 x9 x10 x11 x12 : Slot) (c' : Int), Z.length ≤ k ∧ (∀ z ∈ Z, OkT (N' + 1) z.1 ∧ ∃ q, B[z.2.1]? = some q ∧ q = (if z.2.2 = true then (ps.getD z.1.2 0, ps.getD z.1.1 0) else (ps.getD z.1.1 0, ps.getD z.1.2 0))) ∧ c ≤ c' ∧ c' ≤ c + 20 + 4 * k ∧
      s = ⟨[.pen, .d (webD n B), .d (.int most), .d (.int many), .d (.tup (nsD ps)), .no, .own (.l (tsD (Z.map Prod.fst))), .own (.l (Z.map fun z => endD z.2)), x8, x9, x10, x11, x12], c'⟩) ⟨[], _, _, _, _, _, _, Nat.le_refl _, by simp, by omega, by omega, rfl⟩ ?_ ?_⟩
    · rintro k s hk ⟨Z, x8, x9, x10, x11, x12, c', hz, hok, h3, h4, rfl⟩
      simp
      have hw : WayOk (N' + 1) n B ps Z := ⟨⟨by omega, by omega, by simp; omega, fun p hp => by
        obtain ⟨z, hz, rfl⟩ := List.mem_map.mp hp
        exact (hok z hz).1⟩, hl, hlt, fun z hz => (hok z hz).2⟩
      have := h (N' + 1) ps Z c' (by omega) (by omega) hw (by omega) (by omega)
      refine cast (congrArg (fun d => R d c') ?_) this
      simp [hl]
    · rintro k s K Bk hk ⟨Z, x8, x9, x10, x11, x12, c', hz, hok, h3, h4, rfl⟩ hK hBk
      simp [atI1, pyEs_ts]
      refine ⟨shp_ts B, rfl, ?_⟩
      rw [eqvE2]
      by_cases hb0 : B = []
      · rw [if_pos (by simp [hb0])]
        exact hBk k _ (by omega) ⟨Z, .d (.int k), x9, x10, x11, x12, c', hz, hok, h3, h4, by simp [S.set]⟩
      · have hbl : 0 < B.length := List.length_pos_iff.mpr hb0
        rw [if_neg (by simp [hb0])]
        refine draw (c := c') (by omega) (by have := hB.t12; omega) (by omega) (by omega) fun r r0 r1 => ?_
        obtain ⟨t, rfl⟩ := Int.eq_ofNat_of_zero_le r0
        refine draw (c := c' + 1) (by omega) (by omega) (by omega) (by omega) fun r r0 r1 => ?_
        obtain ⟨u, rfl⟩ := Int.eq_ofNat_of_zero_le r0
        have ht : t < B.length := by omega
        obtain ⟨q, hq⟩ : ∃ q, B[t]? = some q := ⟨B[t], by simp [ht]⟩
        obtain ⟨bk, hbk⟩ : ∃ bk : Bool, bk = decide ((u : Int) = 1) := ⟨_, rfl⟩
        simp
        rw [← hbk]
        refine ⟨by omega, lc_filt (fun i : Nat => D.int i) (fun x => decide (ps.getD x 0 = if bk = true then q.2 else q.1)) (by simp) (by simp; omega) (fun x hx Q hQ => ?_) ?_⟩
        · simp at hx
          cases bk <;> simp [atI0, atI1, atI_nat, hq, hx, dcn] at hQ ⊢ <;> exact hQ
        simp
        refine ⟨by omega, lc_filt (fun i : Nat => D.int i) (fun x => decide (ps.getD x 0 = if bk = true then q.1 else q.2)) (by simp) (by simp; omega) (fun x hx Q hQ => ?_) ?_⟩
        · simp at hx
          cases bk <;> simp [atI0, atI1, atI_nat, hq, hx, dcn] at hQ ⊢ <;> exact hQ
        generalize hL1 : (List.range _).filter _ = L1
        generalize hL2 : (List.range _).filter _ = L2
        simp [pyEs_ns, eqvE, shp_ns]
        refine ⟨rfl, ?_⟩
        by_cases n1 : L1 = []
        · exact .inl ⟨n1, hK _ ⟨Z, _, _, _, _, _, c' + 1 + 1, by omega, hok, by omega, by push_cast; omega, by simp [S.set]; exact ⟨rfl, rfl, rfl, rfl, rfl⟩⟩⟩
        refine .inr ⟨n1, rfl, ?_⟩
        by_cases n2 : L2 = []
        · exact .inl ⟨n2, hK _ ⟨Z, _, _, _, _, _, c' + 1 + 1, by omega, hok, by omega, by push_cast; omega, by simp [S.set]; exact ⟨rfl, rfl, rfl, rfl, rfl⟩⟩⟩
        refine .inr ⟨n2, ?_⟩
        have m1 : ∀ x ∈ L1, x < N' + 1 ∧ ps.getD x 0 = if bk = true then q.2 else q.1 := fun x hx => by
          rw [← hL1, List.mem_filter] at hx
          exact ⟨by have := hx.1; simp at this; omega, of_decide_eq_true hx.2⟩
        have m2 : ∀ x ∈ L2, x < N' + 1 ∧ ps.getD x 0 = if bk = true then q.1 else q.2 := fun x hx => by
          rw [← hL2, List.mem_filter] at hx
          exact ⟨by have := hx.1; simp at this; omega, of_decide_eq_true hx.2⟩
        have l1 : L1.length ≤ 8 := by
          rw [← hL1]
          refine Nat.le_trans (List.length_filter_le _ _) ?_
          simp; omega
        have l2 : L2.length ≤ 8 := by
          rw [← hL2]
          refine Nat.le_trans (List.length_filter_le _ _) ?_
          simp; omega
        refine pick (c := c' + 1 + 1) (by simpa using n1) (by simp; omega) (by omega) (by omega) fun d hd => ?_
        refine pick (c := c' + 1 + 1 + 1) (by simpa using n2) (by simp; omega) (by omega) (by omega) fun d2 hd2 => ?_
        obtain ⟨x, hx, rfl⟩ := List.mem_map.mp hd
        obtain ⟨y, hy, rfl⟩ := List.mem_map.mp hd2
        obtain ⟨x1, x2⟩ := m1 x hx
        obtain ⟨y1, y2⟩ := m2 y hy
        obtain ⟨q1, q2, q3⟩ := hB.ok q (List.mem_of_getElem? hq)
        refine ⟨by omega, hK _ ⟨Z ++ [((x, y), t, bk)], .d (.int k), .d (.int t), .d (.bl bk), .d (.lst (L1.map fun i : Nat => D.int i)), .d (.lst (L2.map fun i : Nat => D.int i)), c' + 1 + 1 + 1 + 1, by simp; omega, ?_, by omega, by push_cast; omega, by simp [S.set]⟩⟩
        intro z hz
        rcases List.mem_append.mp hz with z1 | z1
        · exact hok z z1
        · simp at z1
          subst z1
          refine ⟨⟨x1, y1, fun e => q3 ?_⟩, q, hq, ?_⟩
          · simp only at e
            subst e
            cases bk <;> simp at x2 y2 <;> omega
          · cases bk <;> simp at x2 y2 ⊢ <;> exact Prod.ext (by simp [x2, y2]) (by simp [x2, y2])
  · rintro acc x xs c' K ⟨ps, rfl, hlt, hl, rfl⟩ hK
    simp at hl
    simp [atI0]
    refine draw (c := c + 1 + ps.length) (by omega) (by omega) (by omega) (by omega) fun r r0 r1 => ?_
    obtain ⟨k, rfl⟩ := Int.eq_ofNat_of_zero_le r0
    refine ⟨by omega, hK _ _ ⟨ps ++ [k], by simp, ?_, by simp; omega, by simp; omega⟩⟩
    intro s hs
    rcases List.mem_append.mp hs with z | z
    · exact hlt s z
    · simp at z
      omega
end K74
/-! defs' texts, cut -/
namespace K74
open PySem PySem.Spec PyProof.Rows L2 DL
def T5__law_wrong (gm : Gm) (RX : DX → Int → Prop) : DS := (dFrz 6 (dRet (dVar 6)))
def T4__law_wrong (gm : Gm) (RX : DX → Int → Prop) : DS := (dSeq (dIfS (tCm oNe (dVar 4) (dTup aNil)) (dSeq (dSet 8 (dCallP 0 (Ψ__law_draw gm) RX (aCons (dCB cLen (aCons (dVar 4) aNil)) aNil))) (dSeq (dAsg (dOp oIx (dVar 4) (dVar 8)) (gTp 2 (gsC (fun d s R => R (s.set 9 (.d d))) (gsC (fun d s R => R (s.set 10 (.d d))) gsN)))) (dFor (dSeq2 (dFz (lLst (aCons (dTup (aCons (dVar 9) (aCons (dNot (dVar 10)) aNil))) (aCons (dTup (aCons (dOp oAddX (dVar 9) (dC (.int 1))) (aCons (dVar 10) aNil))) (aCons (dTup (aCons (dVar 9) (aCons (dCB cInt (aCons (dVar 10) aNil)) aNil))) (aCons (dTup (aCons (dVar 9) aNil)) (aCons (dFz (lLst (aCons (dVar 9) (aCons (dVar 10) aNil)))) (aCons (dC .non) (aCons (dTup (aCons (dC (.bl true)) (aCons (dVar 10) aNil))) aNil)))))))))) (fun d s R => R (s.set 11 (.d d))) (dAppend 6 (dTup (aCons (dVar 3) (aCons (dOp oAddX (dOp oAddX (dCut (dVar 4) oNo (oSome (dVar 8))) (dTup (aCons (dVar 11) aNil))) (dCut (dVar 4) (oSome (dOp oAddX (dVar 8) (dC (.int 1)))) oNo)) aNil))))))) (dNext)) (T5__law_wrong gm RX))
def T3__law_wrong (gm : Gm) (RX : DX → Int → Prop) : DS := (dSeq (dOwn 6 (lAddO 6 (dFz (dLc [7] (dSeq2 (dTup (aCons (dOp oIx (dVar 2) (dC (.int 0))) (aCons (dNeg (dC (.int 1))) (aCons (dC (.bl true)) (aCons (dC .non) (aCons (dOp (oI (fun _ j => 0 < j) fun i j => .int (i % j)) (dCB cInt (aCons (dOp oAddX (dOp oIx (dVar 3) (dVar 5)) (dC (.int 1))) aNil)) (dOp oIx (dVar 2) (dC (.int 0)))) aNil))))))) (fun d s R => R (s.set 7 (.d d))) dYes (dTup (aCons (dOp oAddX (dOp oAddX (dCut (dVar 3) oNo (oSome (dVar 5))) (dTup (aCons (dVar 7) aNil))) (dCut (dVar 3) (oSome (dOp oAddX (dVar 5) (dC (.int 1)))) oNo)) (aCons (dVar 4) aNil))))))) (T4__law_wrong gm RX))
def T2__law_wrong (gm : Gm) (RX : DX → Int → Prop) : DS := (dSeq (dOwn 6 (lLst (aCons (dC .non) (aCons (dC (.int 5)) (aCons (dTup (aCons (dVar 3) aNil)) (aCons (dTup (aCons (dVar 3) (aCons (dVar 4) (aCons (dTup aNil) aNil)))) (aCons (dTup (aCons (dFz (lList (aCons (dVar 3) aNil))) (aCons (dVar 4) aNil))) (aCons (dTup (aCons (dVar 3) (aCons (dFz (lList (aCons (dVar 4) aNil))) aNil))) (aCons (dTup (aCons (dCut (dVar 3) (oSome (dC (.int 1))) oNo) (aCons (dVar 4) aNil))) (aCons (dTup (aCons (dVar 3) (aCons (dOp oAddX (dVar 4) (dTup (aCons (dTup (aCons (dC (.int 0)) (aCons (dC (.bl false)) aNil))) aNil))) aNil))) aNil)))))))))) (T3__law_wrong gm RX))
def T1__law_wrong (gm : Gm) (RX : DX → Int → Prop) : DS := (dSeq (dSet 5 (dCallP 0 (Ψ__law_draw gm) RX (aCons (dCB cLen (aCons (dVar 3) aNil)) aNil))) (T2__law_wrong gm RX))
theorem cut__law_wrong {gm : Gm} {ds : List D} {c : Int} {R : D → Int → Prop} {RX : DX → Int → Prop} : Ψ__law_wrong gm ds c R RX = (ds.length = 2 ∧ (dSeq (dAsg (dVar 1) (gTp 2 (gsC (fun d s R => R (s.set 3 (.d d))) (gsC (fun d s R => R (s.set 4 (.d d))) gsN)))) (T1__law_wrong gm RX)) ⟨slots0 true 12 ds, c⟩ { nx := fun s => R .non s.c, rt := fun d s => R d s.c }) := rfl
def T6__law_case (gm : Gm) (RX : DX → Int → Prop) : DS := (dSeq (dSet 16 (dCB cTup (aCons (dFz (dLc [17, 18] (dSeq2 (dOp oIx (dVar 5) (dC (.int 1)))) (gTp 2 (gsC (fun d s R => R (s.set 17 (.d d))) (gsC (fun d s R => R (s.set 18 (.d d))) gsN))) dYes (dTup (aCons (dOp oIx (dOp oIx (dOp oIx (dVar 3) (dC (.int 1))) (dVar 17)) (dC (.int 0))) (aCons (dOp oNe (dVar 18) (dOp oIx (dOp oIx (dOp oIx (dVar 3) (dC (.int 1))) (dVar 17)) (dC (.int 1)))) aNil))))) aNil))) (dRet ((dAnd (dOp oEq (dCB cRepr (aCons (dVar 13) aNil)) (dCB cRepr (aCons (dTup (aCons (dVar 14) (aCons (dVar 16) aNil))) aNil))) (dOp (oIsB false) (dCall (Ψ_is_web_map gm) RX (aCons (dVar 4) (aCons (dVar 1) (aCons (dVar 13) aNil)))) (dC (.bl true)))))))
def T5__law_case (gm : Gm) (RX : DX → Int → Prop) : DS := (dSeq (dSet 14 (dCB cTup (aCons (dFz (dLc [15] (dSeq2 (dOp oIx (dVar 5) (dC (.int 0)))) (fun d s R => R (s.set 15 (.d d))) dYes (dOp oIx (dOp oIx (dVar 3) (dC (.int 0))) (dVar 15)))) aNil))) (T6__law_case gm RX))
def T4__law_case (gm : Gm) (RX : DX → Int → Prop) : DS := (dSeq (dSet 13 (dCall (Ψ_behind_web_map gm) RX (aCons (dVar 4) (aCons (dVar 2) (aCons (dVar 1) (aCons (dVar 5) (aCons (dVar 3) aNil))))))) (T5__law_case gm RX))
def T3__law_case (gm : Gm) (RX : DX → Int → Prop) : DS := (dSeq (dFor (dSeq2 (dFz (lLst (aCons (dTup (aCons (dVar 2) (aCons (dVar 1) (aCons (dVar 3) aNil)))) (aCons (dTup (aCons (dVar 4) (aCons (dVar 2) (aCons (dVar 5) aNil)))) aNil))))) (gTp 3 (gsC (fun d s R => R (s.set 6 (.d d))) (gsC (fun d s R => R (s.set 7 (.d d))) (gsC (fun d s R => R (s.set 8 (.d d))) gsN)))) (dSeq (dSet 9 (dCallP 0 (Ψ__law_pick gm) RX (aCons (dFz (lLst (aCons (dVar 6) (aCons (dFz (lLst (aCons (dOp oIx (dVar 6) (dC (.int 0))) (aCons (dFz (dLc [10] (dSeq2 (dOp oIx (dVar 6) (dC (.int 1)))) (fun d s R => R (s.set 10 (.d d))) dYes (dFz (lList (aCons (dVar 10) aNil))))) aNil)))) aNil)))) aNil))) (dSeq (dFor (dSeq2 (dOp oAddX (dFz (lLst (aCons (dVar 8) aNil))) (dCallP 0 (Ψ__law_wrong gm) RX (aCons (dVar 8) (aCons (dVar 7) aNil))))) (fun d s R => R (s.set 11 (.d d))) (dIfS (tCm oNe (dCB cRepr (aCons (dCall (Ψ_is_web_map gm) RX (aCons (dVar 9) (aCons (dVar 7) (aCons (dVar 11) aNil)))) aNil)) (dCB cRepr (aCons (dCall (Ψ__law_is_way gm) RX (aCons (dVar 6) (aCons (dVar 7) (aCons (dVar 11) aNil)))) aNil))) (dRet (dC (.bl false))) (dNext))) (dIfS (tCm oNe (dCB cRepr (aCons (dCall (Ψ_is_cover gm) RX (aCons (dVar 9) (aCons (dVar 7) (aCons (dFz (lLst (aCons (dFz (lList (aCons (dOp oIx (dVar 8) (dC (.int 0))) aNil))) (aCons (dFz (dLc [12] (dSeq2 (dOp oIx (dVar 8) (dC (.int 1)))) (fun d s R => R (s.set 12 (.d d))) dYes (dFz (lList (aCons (dVar 12) aNil))))) aNil)))) aNil)))) aNil)) (dCB cRepr (aCons (dCall (Ψ__law_covers gm) RX (aCons (dVar 6) (aCons (dVar 7) (aCons (dVar 8) aNil)))) aNil))) (dRet (dC (.bl false))) (dNext))))) (T4__law_case gm RX))
def T2__law_case (gm : Gm) (RX : DX → Int → Prop) : DS := (dSeq (dAsg (dCallP 0 (Ψ__law_upon gm) RX (aCons (dVar 2) (aCons (dC (.int 8)) (aCons (dC (.int 10)) aNil)))) (gTp 2 (gsC (fun d s R => R (s.set 4 (.d d))) (gsC (fun d s R => R (s.set 5 (.d d))) gsN)))) (T3__law_case gm RX))
def T1__law_case (gm : Gm) (RX : DX → Int → Prop) : DS := (dSeq (dAsg (dCallP 0 (Ψ__law_upon gm) RX (aCons (dVar 1) (aCons (dC (.int 6)) (aCons (dC (.int 8)) aNil)))) (gTp 2 (gsC (fun d s R => R (s.set 2 (.d d))) (gsC (fun d s R => R (s.set 3 (.d d))) gsN)))) (T2__law_case gm RX))
theorem cut__law_case {gm : Gm} {ds : List D} {c : Int} {R : D → Int → Prop} {RX : DX → Int → Prop} : Ψ__law_case gm ds c R RX = (ds.length = 0 ∧ (dSeq (dSet 1 (dCallP 0 (Ψ__law_plain_web gm) RX (aCons (dC (.int 4)) (aCons (dC (.int 5)) aNil)))) (T1__law_case gm RX)) ⟨slots0 true 19 ds, c⟩ { nx := fun s => R .non s.c, rt := fun d s => R d s.c }) := rfl
def T5__law_copies_hold (gm : Gm) (RX : DX → Int → Prop) : DS := (dFrz 6 (dFrz 4 (dFrz 5 (dSeq (dSet 13 (dTup (aCons (dCB cLen (aCons (dVar 3) aNil)) (aCons (dCB cTup (aCons (dVar 5) aNil)) aNil)))) (dSeq (dIfS (tCm (oIsB true) (dCall (Ψ_is_cover gm) RX (aCons (dVar 13) (aCons (dVar 1) (aCons (dTup (aCons (dCB cTup (aCons (dVar 4) aNil)) (aCons (dCB cTup (aCons (dVar 6) aNil)) aNil))) aNil)))) (dC (.bl true))) (dRet (dC (.bl false))) (dNext)) (dSeq (dIfS (tCm oEq (dVar 5) (dFz (lLst aNil))) (dRet (dC (.bl true))) (dNext)) (dSeq (dPar 14 15 (pD (dTup (aCons (dCB cLen (aCons (dVar 3) aNil)) (aCons (dCB cTup (aCons (dCut (dVar 5) (oSome (dC (.int 1))) oNo) aNil)) aNil)))) (pD (dTup (aCons (dCB cLen (aCons (dVar 3) aNil)) (aCons (dCB cTup (aCons (dOp oAddX (dVar 5) (dCut (dVar 5) oNo (oSome (dC (.int 1))))) aNil)) aNil))))) (dSeq (dIfS (tCm (oIsB true) (dCall (Ψ_is_cover gm) RX (aCons (dVar 14) (aCons (dVar 1) (aCons (dTup (aCons (dCB cTup (aCons (dVar 4) aNil)) (aCons (dCB cTup (aCons (dCut (dVar 6) (oSome (dC (.int 1))) oNo) aNil)) aNil))) aNil)))) (dC (.bl false))) (dRet (dC (.bl false))) (dNext)) (dRet (dOp (oIsB false) (dCall (Ψ_is_cover gm) RX (aCons (dVar 15) (aCons (dVar 1) (aCons (dTup (aCons (dCB cTup (aCons (dVar 4) aNil)) (aCons (dCB cTup (aCons (dOp oAddX (dVar 6) (dCut (dVar 6) oNo (oSome (dC (.int 1))))) aNil)) aNil))) aNil)))) (dC (.bl false))))))))))))
def T4__law_copies_hold (gm : Gm) (RX : DX → Int → Prop) : DS := (dSeq (dFor (dRng (aCons (dVar 2) aNil)) (fun d s R => R (s.set 7 (.d d))) (dSeq (dFor (dRng (aCons (dOp oIx (dVar 1) (dC (.int 0))) aNil)) (fun d s R => R (s.set 8 (.d d))) (dSetO 4 (dOp oIx (dVar 3) (dOp oAddX (dOp oMulX (dVar 7) (dOp oIx (dVar 1) (dC (.int 0)))) (dVar 8))) (dVar 8))) (dFor (dRng (aCons (dCB cLen (aCons (dOp oIx (dVar 1) (dC (.int 1))) aNil)) aNil)) (fun d s R => R (s.set 9 (.d d))) (dSeq (dAsg (dFz (dLc [8] (dSeq2 (dOp oIx (dOp oIx (dVar 1) (dC (.int 1))) (dVar 9))) (fun d s R => R (s.set 8 (.d d))) dYes (dOp oIx (dVar 3) (dOp oAddX (dOp oMulX (dVar 7) (dOp oIx (dVar 1) (dC (.int 0)))) (dVar 8))))) (gLs 2 (gsC (fun d s R => R (s.set 10 (.d d))) (gsC (fun d s R => R (s.set 11 (.d d))) gsN)))) (dSeq (dSet 12 (dOp oEq (dCallP 0 (Ψ__law_draw gm) RX (aCons (dC (.int 2)) aNil)) (dC (.int 1)))) (dSeq (dAppend 5 (dIf (tBool (dVar 12)) (dTup (aCons (dVar 11) (aCons (dVar 10) aNil))) (dTup (aCons (dVar 10) (aCons (dVar 11) aNil))))) (dAppend 6 (dTup (aCons (dVar 9) (aCons (dVar 12) aNil)))))))))) (T5__law_copies_hold gm RX))
def T3__law_copies_hold (gm : Gm) (RX : DX → Int → Prop) : DS := (dSeq (dPar3 4 5 6 (pO (lMul (dFz (lLst (aCons (dC (.int 0)) aNil))) (dCB cLen (aCons (dVar 3) aNil)))) (pO (lLst aNil)) (pO (lLst aNil))) (T4__law_copies_hold gm RX))
def T2__law_copies_hold (gm : Gm) (RX : DX → Int → Prop) : DS := (dSeq (dSet 3 (dCallP 0 (Ψ__law_shuffled gm) RX (aCons (dFz (lRng (dOp oMulX (dOp oIx (dVar 1) (dC (.int 0))) (dVar 2)))) aNil))) (T3__law_copies_hold gm RX))
def T1__law_copies_hold (gm : Gm) (RX : DX → Int → Prop) : DS := (dSeq (dSet 2 (dOp oAddX (dC (.int 1)) (dCallP 0 (Ψ__law_draw gm) RX (aCons (dC (.int 2)) aNil)))) (T2__law_copies_hold gm RX))
theorem cut__law_copies_hold {gm : Gm} {ds : List D} {c : Int} {R : D → Int → Prop} {RX : DX → Int → Prop} : Ψ__law_copies_hold gm ds c R RX = (ds.length = 0 ∧ (dSeq (dSet 1 (dCallP 0 (Ψ__law_plain_web gm) RX (aCons (dC (.int 3)) (aCons (dC (.int 4)) aNil)))) (T1__law_copies_hold gm RX)) ⟨slots0 true 16 ds, c⟩ { nx := fun s => R .non s.c, rt := fun d s => R d s.c }) := rfl
end K74
namespace K74
open PySem DL
open L2 (atI)
variable {gm : Gm} {c : Int} {R : D → Int → Prop} {RX : DX → Int → Prop}
/-! ### things with one thing wrong -/
theorem dep_t {n : Nat} {l : List D} (h : l.length ≤ 1000) (k : ∀ x ∈ l, dep n x = true) : dep (n + 1) (.tup l) = true ∧ dep (n + 1) (.lst l) = true := by
  have e : depL n l = true := by
    induction l with
    | nil => rfl
    | cons a l ih =>
      show (dep n a && depL n l) = true
      rw [k a (by simp), ih (by simp at h; omega) fun x hx => k x (by simp [hx])]
      rfl
  have : (decide (l.length ≤ 1000) && depL n l) = true := by rw [decide_eq_true h, e]; rfl
  exact ⟨this, this⟩
theorem cut_mem {l : List D} {a b : Option Int} {x : D} (h : x ∈ cutD l a b) : x ∈ l := List.mem_of_mem_drop (List.mem_of_mem_take h)
theorem cut_len (l : List D) (a b : Option Int) : (cutD l a b).length ≤ l.length := by
  unfold cutD
  rw [List.length_take, List.length_drop]
  omega
/-- flat things -/
def fl : D → Bool
  | .non => true
  | .bl _ => true
  | .int _ => true
  | .str _ => true
  | _ => false
theorem fl_dep {n : Nat} {d : D} (h : fl d = true) : dep (n + 1) d = true := by
  cases d <;> first | rfl | cases h
/-- rows of flat things; rows of rows -/
structure Fl1 (d : D) : Prop where
  ex : fl d = true ∨ ∃ l : List D, (d = .tup l ∨ d = .lst l) ∧ l.length ≤ 100 ∧ ∀ x ∈ l, fl x = true
theorem Fl1.dep {n : Nat} {d : D} (h : Fl1 d) : dep (n + 2) d = true := by
  rcases h.ex with h | ⟨l, h, hl, hx⟩
  · exact fl_dep h
  · have := dep_t (n := n + 1) (l := l) (by omega) fun x m => fl_dep (hx x m)
    rcases h with rfl | rfl
    · exact this.1
    · exact this.2
structure Fl2 (d : D) : Prop where
  ex : Fl1 d ∨ ∃ l : List D, (d = .tup l ∨ d = .lst l) ∧ l.length ≤ 100 ∧ ∀ x ∈ l, Fl1 x
theorem Fl2.dep {n : Nat} {d : D} (h : Fl2 d) : dep (n + 3) d = true := by
  rcases h.ex with h | ⟨l, h, hl, hx⟩
  · exact h.dep (n := n + 1)
  · have := dep_t (n := n + 2) (l := l) (by omega) fun x m => (hx x m).dep
    rcases h with rfl | rfl
    · exact this.1
    · exact this.2
theorem pair_dep {n : Nat} {a b : D} (ha : Fl2 a) (hb : Fl2 b) : dep (n + 4) (.tup [a, b]) = true := (dep_t (n := n + 3) (by simp) fun x hx => by
  simp at hx
  rcases hx with rfl | rfl
  · exact ha.dep
  · exact hb.dep).1
theorem fl2_ns {ps : List Nat} (h : ps.length ≤ 8) : Fl2 (.tup (nsD ps)) := ⟨.inl ⟨.inr ⟨_, .inl rfl, by simp; omega, fun x hx => by
  obtain ⟨p, _, rfl⟩ := List.mem_map.mp hx
  rfl⟩⟩⟩
abbrev stW (n : Nat) (B : List Tie) (ps : List Nat) (Z : List Up) (x5 x6 x7 x8 x9 x10 x11 : Slot) (c : Int) : S := ⟨[.pen, .d (wayD ps Z), .d (webD n B), .d (.tup (nsD ps)), .d (.tup (Z.map fun z => endD z.2)), x5, x6, x7, x8, x9, x10, x11], c⟩
abbrev En (R : D → Int → Prop) : DEn := { nx := fun s => R .non s.c, rt := fun d s => R d s.c }
theorem w5_ok {n : Nat} {B : List Tie} {ps : List Nat} {Z : List Up} {x5 x7 x8 x9 x10 x11 : Slot} {l : List D} (hR : R (.lst l) c) : T5__law_wrong gm RX (stW n B ps Z x5 (.own (.l l)) x7 x8 x9 x10 x11 c) (En R) := by
  unfold T5__law_wrong
  simpa using hR
abbrev pyEnd (z : Up) : PyData := .tuple [.int z.2.1, .bool z.2.2]
theorem pyEs_ends : ∀ l : List Up, pyEs (l.map fun z => endD z.2) = some (l.map pyEnd)
  | [] => rfl
  | x :: l => by
    have ih := pyEs_ends l
    show (match pyE (endD x.2), pyEs (l.map fun z => endD z.2) with
      | some x, some xs => some (x :: xs)
      | _, _ => none) = _
    rw [ih]
    rfl
theorem shp_ends (l : List Up) : SeqAt.shaped (PyData.tuple (l.map pyEnd)) = true := by
  have h : ∀ l : List Up, PyData.canLayAll0 (l.map pyEnd) = true ∧ PyData.depthAll (l.map pyEnd) ≤ 1 := by
    intro l
    induction l with
    | nil => exact ⟨rfl, Nat.zero_le _⟩
    | cons a l ih =>
      obtain ⟨h1, h2⟩ := ih
      refine ⟨?_, ?_⟩
      · show (true && PyData.canLayAll0 _) = true
        rw [h1]; rfl
      · show max 1 (PyData.depthAll _) ≤ 1
        omega
  obtain ⟨h1, h2⟩ := h l
  show (PyData.canLayAll0 _ && decide (PyData.depthAll _ + 1 ≤ 64)) = true
  rw [h1, decide_eq_true (by omega)]
  rfl
theorem fl1_end (e : Nat × Bool) : Fl1 (endD e) := ⟨.inr ⟨_, .inl rfl, by simp, fun x hx => by
  simp at hx
  rcases hx with rfl | rfl <;> rfl⟩⟩
theorem fl1_2 {a b : D} (ha : fl a = true) (hb : fl b = true) : Fl1 (.tup [a, b]) := ⟨.inr ⟨_, .inl rfl, by simp, fun x hx => by
  simp at hx
  rcases hx with rfl | rfl
  · exact ha
  · exact hb⟩⟩
theorem fl1_1 {a : D} (ha : fl a = true) : Fl1 (.tup [a]) := ⟨.inr ⟨_, .inl rfl, by simp, fun x hx => by
  simp at hx
  subst hx
  exact ha⟩⟩
/-- ends with one exchanged -/
theorem fl2_ends {Z : List Up} {e : D} (hz : Z.length ≤ 12) (he : Fl1 e) (a b a' b' : Option Int) : Fl2 (.tup (cutD (Z.map fun z => endD z.2) a b ++ (e :: cutD (Z.map fun z => endD z.2) a' b'))) := by
  have l1 := cut_len (Z.map fun z => endD z.2) a b
  have l2 := cut_len (Z.map fun z => endD z.2) a' b'
  rw [List.length_map] at l1 l2
  refine ⟨.inr ⟨_, .inl rfl, by rw [List.length_append, List.length_cons]; omega, fun x hx => ?_⟩⟩
  rcases List.mem_append.mp hx with m | m
  · obtain ⟨z, _, rfl⟩ := List.mem_map.mp (cut_mem m)
    exact fl1_end _
  · rcases List.mem_cons.mp m with rfl | m
    · exact he
    · obtain ⟨z, _, rfl⟩ := List.mem_map.mp (cut_mem m)
      exact fl1_end _
theorem w4_ok {n : Nat} {B : List Tie} {ps : List Nat} {Z : List Up} {x5 x7 x8 x9 x10 x11 : Slot} {l : List D} (hp : ps.length ≤ 8) (hz : Z.length ≤ 12) (hl : l.length ≤ 20) (hd : ∀ v ∈ l, dep 6 v = true) (c0 : 0 ≤ c) (c1 : c < 400000000000) (hR : ∀ (l : List D) c', l.length ≤ 40 → (∀ v ∈ l, dep 6 v = true) → c ≤ c' → c' ≤ c + 2 → R (.lst l) c') : T4__law_wrong gm RX (stW n B ps Z x5 (.own (.l l)) x7 x8 x9 x10 x11 c) (En R) := by
  unfold T4__law_wrong
  simp [-dForL]
  refine ⟨_, ⟨_, pyEs_ends Z, rfl⟩, shp_ends Z, rfl, ?_⟩
  by_cases h0 : Z = []
  · refine .inl ⟨by rw [eqvE2]; simp [h0], ?_⟩
    exact w5_ok (hR l c (by omega) hd (by omega) (by omega))
  · refine .inr ⟨by rw [eqvE2]; simp [h0], ?_⟩
    have zl : 0 < Z.length := List.length_pos_iff.mpr h0
    refine draw (c := c) (by omega) (by omega) (by omega) (by omega) fun r r0 r1 => ?_
    obtain ⟨t, rfl⟩ := Int.eq_ofNat_of_zero_le r0
    have ht : t < Z.length := by omega
    obtain ⟨q, hq⟩ : ∃ q, Z[t]? = some q := ⟨Z[t], by simp [ht]⟩
    simp [atI_nat, hq, -dForL]
    have k1 := cut_len (Z.map fun z => endD z.2) none (some (t : Int))
    have k2 := cut_len (Z.map fun z => endD z.2) (some ((t : Int) + 1)) none
    rw [List.length_map] at k1 k2
    refine for_ind (fun l' s => ∃ (l2 : List D) (x11 : Slot), l2.length + l'.length ≤ 40 ∧ (∀ v ∈ l2, dep 6 v = true) ∧ (∀ e ∈ l', Fl1 e) ∧ s = stW n B ps Z x5 (.own (.l l2)) x7 (.d (.int t)) (.d (.int q.2.1)) (.d (.bl q.2.2)) x11 (c + 1)) ?_ ?_ _ _ ⟨l, x11, ?_, hd, ?_, rfl⟩
    · rintro s ⟨l2, x11, h1, h2, h3, rfl⟩
      exact w5_ok (gm := gm) (RX := RX) (hR l2 (c + 1) (by simpa using h1) h2 (by omega) (by omega))
    · rintro e xs s K ⟨l2, x11, h1, h2, h3, rfl⟩ hK
      have h1' : l2.length + (xs.length + 1) ≤ 40 := h1
      have he := h3 e (by simp)
      simp
      simp only [endD] at k1 k2
      refine ⟨by omega, by omega, by omega, hK _ ⟨l2 ++ [.tup [.tup (nsD ps), .tup (cutD (Z.map fun z => endD z.2) none (some (t : Int)) ++ (e :: cutD (Z.map fun z => endD z.2) (some ((t : Int) + 1)) none))]], .d e, by simp; omega, fun v hv => ?_, fun e' h' => h3 e' (by simp [h']), rfl⟩⟩
      rcases List.mem_append.mp hv with m | m
      · exact h2 v m
      · simp only [List.mem_singleton] at m
        subst m
        exact pair_dep (fl2_ns hp) (fl2_ends hz he _ _ _ _)
    · show l.length + 7 ≤ 40
      omega
    · intro e he
      simp only [List.mem_cons, List.not_mem_nil, or_false] at he
      rcases he with rfl | rfl | rfl | rfl | rfl | rfl | rfl
      all_goals first | exact fl1_2 rfl rfl | exact fl1_1 rfl | exact ⟨.inl rfl⟩ | exact ⟨.inr ⟨_, .inr rfl, by simp, fun x hx => by
        simp at hx
        rcases hx with rfl | rfl <;> rfl⟩⟩
theorem fl2_zs {Z : List Up} (hz : Z.length ≤ 12) : Fl2 (.tup (Z.map fun z => endD z.2)) ∧ Fl2 (.lst (Z.map fun z => endD z.2)) := by
  have h : ∀ x ∈ Z.map fun z => endD z.2, Fl1 x := fun x hx => by
    obtain ⟨z, _, rfl⟩ := List.mem_map.mp hx
    exact fl1_end _
  exact ⟨⟨.inr ⟨_, .inl rfl, by simp; omega, h⟩⟩, ⟨.inr ⟨_, .inr rfl, by simp; omega, h⟩⟩⟩
theorem fl2_row {l : List D} (hl : l.length ≤ 100) (h : ∀ x ∈ l, fl x = true) : Fl2 (.tup l) ∧ Fl2 (.lst l) := ⟨⟨.inl ⟨.inr ⟨l, .inl rfl, hl, h⟩⟩⟩, ⟨.inl ⟨.inr ⟨l, .inr rfl, hl, h⟩⟩⟩⟩
theorem fl_ns {ps : List Nat} : ∀ x ∈ nsD ps, fl x = true := fun x hx => by
  obtain ⟨p, _, rfl⟩ := List.mem_map.mp hx
  rfl
theorem w3_ok {n : Nat} {B : List Tie} {ps : List Nat} {Z : List Up} {k : Nat} {x7 x8 x9 x10 x11 : Slot} {l : List D} (hp : ps.length ≤ 8) (hz : Z.length ≤ 12) (hk : k < ps.length) (hn : 1 ≤ n) (hl : l.length ≤ 10) (hd : ∀ v ∈ l, dep 6 v = true) (h7 : x7 = .no) (c0 : 0 ≤ c) (c1 : c < 400000000000) (hR : ∀ (l : List D) c', l.length ≤ 40 → (∀ v ∈ l, dep 6 v = true) → c ≤ c' → c' ≤ c + 2 → R (.lst l) c') : T3__law_wrong gm RX (stW n B ps Z (.d (.int k)) (.own (.l l)) x7 x8 x9 x10 x11 c) (En R) := by
  obtain ⟨pk, hpk⟩ : ∃ pk, ps[k]? = some pk := ⟨ps[k], by simp [hk]⟩
  have k1 := cut_len (nsD ps) none (some (k : Int))
  have k2 := cut_len (nsD ps) (some ((k : Int) + 1)) none
  rw [List.length_map] at k1 k2
  unfold T3__law_wrong
  subst h7
  simp [-lcL, atI0, atI_nat, hpk]
  refine ⟨by omega, ?_⟩
  refine lc_map (fun d => .tup [.tup (cutD (nsD ps) none (some (k : Int)) ++ (d :: cutD (nsD ps) (some ((k : Int) + 1)) none)), .tup (Z.map fun z => endD z.2)]) (by simp) (by simp) (fun x hx Q hQ => ?_) ?_
  · simp
    exact ⟨by omega, by omega, by simpa using hQ⟩
  · simp
    refine ⟨by omega, w4_ok hp hz (by simp; omega) (fun v hv => ?_) c0 c1 hR⟩
    rcases List.mem_append.mp hv with m | m
    · exact hd v m
    · have key : ∀ d : D, fl d = true → dep 6 (.tup [.tup (cutD (nsD ps) none (some (k : Int)) ++ (d :: cutD (nsD ps) (some ((k : Int) + 1)) none)), .tup (Z.map fun z => endD z.2)]) = true := fun d hd => by
        refine pair_dep (fl2_row (by rw [List.length_append, List.length_cons]; omega) fun x hx => ?_).1 (fl2_zs hz).1
        rcases List.mem_append.mp hx with m | m
        · exact fl_ns x (cut_mem m)
        · rcases List.mem_cons.mp m with rfl | m
          · exact hd
          · exact fl_ns x (cut_mem m)
      simp only [List.mem_cons, List.not_mem_nil, or_false] at m
      rcases m with rfl | rfl | rfl | rfl | rfl <;> exact key _ rfl
theorem one_dep {a : D} (h : Fl2 a) : dep 6 (.tup [a]) = true := (dep_t (n := 5) (by simp) fun x hx => by
  simp at hx
  subst hx
  exact h.dep).1
theorem three_dep {a b d : D} (ha : Fl2 a) (hb : Fl2 b) (hd : Fl2 d) : dep 6 (.tup [a, b, d]) = true := (dep_t (n := 5) (by simp) fun x hx => by
  simp at hx
  rcases hx with rfl | rfl | rfl
  · exact ha.dep
  · exact hb.dep
  · exact hd.dep).1
theorem wrong_ok {N n : Nat} {B : List Tie} {ps : List Nat} {Z : List Up} (hB : Web n B) (h : WayOk N n B ps Z) (c0 : 0 ≤ c) (c1 : c < 300000000000) (hR : ∀ (l : List D) c', l.length ≤ 40 → (∀ v ∈ l, dep 6 v = true) → c ≤ c' → c' ≤ c + 10 → R (.lst l) c') : Ψ__law_wrong gm [wayD ps Z, webD n B] c R RX := by
  have hN8 := h.web.n8
  have hN1 := h.web.n1
  have hl := h.len
  have hz := h.z12
  have hn1 := hB.n1
  have hn8 := hB.n8
  have k1 := cut_len (nsD ps) (some 1) none
  rw [List.length_map] at k1
  rw [cut__law_wrong]
  refine ⟨rfl, ?_⟩
  simp
  unfold T1__law_wrong
  simp
  refine draw (by omega) (by omega) c0 (by omega) fun r r0 r1 => ?_
  obtain ⟨k, rfl⟩ := Int.eq_ofNat_of_zero_le r0
  unfold T2__law_wrong
  simp
  refine ⟨by omega, ?_⟩
  refine w3_ok (c := c + 1) (by omega) hz (by omega) hn1 (by simp) (fun v hv => ?_) rfl (by omega) (by omega) fun l c' h1 h2 h3 h4 => hR l c' h1 h2 (by omega) (by omega)
  have f1 := (fl2_row (l := nsD ps) (by simp; omega) fl_ns).1
  have f1l := (fl2_row (l := nsD ps) (by simp; omega) fl_ns).2
  have f2 := (fl2_zs hz).1
  have f2l := (fl2_zs hz).2
  simp only [List.mem_cons, List.not_mem_nil, or_false] at hv
  rcases hv with rfl | rfl | rfl | rfl | rfl | rfl | rfl | rfl
  · rfl
  · rfl
  · exact one_dep f1
  · exact three_dep f1 f2 ⟨.inl ⟨.inr ⟨[], .inl rfl, by simp, by simp⟩⟩⟩
  · exact pair_dep f1l f2
  · exact pair_dep f1 f2l
  · exact pair_dep (fl2_row (by omega) fun x hx => fl_ns x (cut_mem hx)).1 f2
  · refine pair_dep f1 ⟨.inr ⟨_, .inl rfl, by simp; omega, fun x hx => ?_⟩⟩
    rcases List.mem_append.mp hx with m | m
    · obtain ⟨z, _, rfl⟩ := List.mem_map.mp m
      exact fl1_end _
    · simp only [List.mem_cons, List.not_mem_nil, or_false] at m
      subst m
      exact fl1_end (0, false)
end K74
namespace K74
open PySem DL
open L2 (atI)
variable {gm : Gm} {c : Int} {R : D → Int → Prop} {RX : DX → Int → Prop}
theorem webmap_ok {N n k : Nat} {A B : List Tie} {d e v : D} (hA : Web N A) (hd : Hand N A d) (hB : Web n B) (he : Hand n B e) (hv : dep (k + 4) v = true) (hR : R (.bl (wayB N n A B v)) c) : Ψ_is_web_map gm [d, e, v] c R RX := by
  refine ⟨rfl, ?_⟩
  simp
  refine web_from_ok hd hA ?_
  refine web_from_ok he hB ?_
  exact way_is hA hv hR
theorem wayfrom_ok {N n : Nat} {B : List Tie} {ps : List Nat} {Z : List Up} {v : D} (h : WayOk N n B ps Z) (hv : dep 12 v = true) (ht : tups v = wayD ps Z) (hR : R (wayD ps Z) c) : Ψ_way_from gm [webD N (Z.map Prod.fst), webD n B, v] c R RX := by
  refine ⟨rfl, ?_⟩
  have d2 := dep_tups hv
  rw [ht] at d2
  simp [in_tuples, hv, ht]
  refine way_is (k := 8) h.web d2 ?_
  rw [way_true h]
  simpa using hR
/-- the way as lists -/
abbrev endL (e : Nat × Bool) : D := .lst [.int e.1, .bl e.2]
abbrev wayL (ps : List Nat) (Z : List Up) : D := .lst [.lst (nsD ps), .lst (Z.map fun z => endL z.2)]
theorem tupsL_ends : ∀ Z : List Up, tupsL (Z.map fun z => endD z.2) = Z.map fun z => endD z.2
  | [] => rfl
  | z :: Z => congrArg (endD z.2 :: ·) (tupsL_ends Z)
theorem tupsL_endsL : ∀ Z : List Up, tupsL (Z.map fun z => endL z.2) = Z.map fun z => endD z.2
  | [] => rfl
  | z :: Z => congrArg (endD z.2 :: ·) (tupsL_endsL Z)
theorem tups_way (ps : List Nat) (Z : List Up) : tups (wayD ps Z) = wayD ps Z := by
  show D.tup [.tup (tupsL (nsD ps)), .tup (tupsL (Z.map fun z => endD z.2))] = _
  rw [tupsL_ints, tupsL_ends]
theorem tups_wayL (ps : List Nat) (Z : List Up) : tups (wayL ps Z) = wayD ps Z := by
  show D.tup [.tup (tupsL (nsD ps)), .tup (tupsL (Z.map fun z => endL z.2))] = _
  rw [tupsL_ints, tupsL_endsL]
theorem dep_way (n : Nat) {ps : List Nat} {Z : List Up} (hp : ps.length ≤ 8) (hz : Z.length ≤ 12) : dep (n + 4) (wayD ps Z) = true :=
  pair_dep (fl2_row (by simp; omega) fl_ns).1 (fl2_zs hz).1
theorem fl2_zsL {Z : List Up} (hz : Z.length ≤ 12) : Fl2 (.lst (Z.map fun z => endL z.2)) := by
  refine ⟨.inr ⟨_, .inr rfl, by simp; omega, fun x hx => ?_⟩⟩
  obtain ⟨z, _, rfl⟩ := List.mem_map.mp hx
  exact ⟨.inr ⟨_, .inr rfl, by simp, by intro x hx; simp at hx; rcases hx with rfl | rfl <;> rfl⟩⟩
theorem dep_wayL (n : Nat) {ps : List Nat} {Z : List Up} (hp : ps.length ≤ 8) (hz : Z.length ≤ 12) : dep (n + 4) (wayL ps Z) = true :=
  (dep_t (n := n + 3) (by simp) fun x hx => by
    simp only [List.mem_cons, List.not_mem_nil, or_false] at hx
    rcases hx with rfl | rfl
    · exact (fl2_row (by simp; omega) fl_ns).2.dep
    · exact (fl2_zsL hz).dep).2
theorem WayOk.p8 {N n : Nat} {B : List Tie} {ps : List Nat} {Z : List Up} (h : WayOk N n B ps Z) : ps.length ≤ 8 := by
  rw [h.len]; exact h.web.n8
theorem cover_ok {N n : Nat} {B : List Tie} {ps : List Nat} {Z : List Up} {d e v : D} (h : WayOk N n B ps Z) (hd : Hand N (Z.map Prod.fst) d) (hB : Web n B) (he : Hand n B e) (hv : dep 12 v = true) (ht : tups v = wayD ps Z) (hR : R (.bl (covB N ps B Z)) c) : Ψ_is_cover gm [d, e, v] c R RX := by
  refine ⟨rfl, ?_⟩
  simp
  refine web_from_ok hd h.web ?_
  refine web_from_ok he hB ?_
  refine wayfrom_ok h hv ht ?_
  exact coverby_is h.len h.web.n8 hB.t12 h.z12 hR
/-- one way behind another one -/
def thru (qs : List Nat) (Y : List Up) (ps : List Nat) (Z : List Up) : List Nat × List Up :=
  (ps.map fun p => qs.getD p 0, Z.map fun z => (z.1, (Y.getD z.2.1 ((0, 0), 0, false)).2.1, xor (Y.getD z.2.1 ((0, 0), 0, false)).2.2 z.2.2))
end K74
namespace K74
open PySem DL
open L2 (atI)
variable {gm : Gm} {c : Int} {R : D → Int → Prop} {RX : DX → Int → Prop}
/-- [e for a, b in xs], e without a draw -/
theorem lc_map2 {α : Type} {a b : Nat} {ε : DE} {R : List D → S → Prop} {sl : List Slot} (f g h : α → D) {xs : List α} {c : Int} (hab : a ≠ b) (ha : a < sl.length) (hb : b < sl.length) (hl : xs.length ≤ 10000) (hε : ∀ x ∈ xs, ∀ K : D → S → Prop, K (f x) ⟨(sl.set a (.d (g x))).set b (.d (h x)), c⟩ → ε ⟨(sl.set a (.d (g x))).set b (.d (h x)), c⟩ K)
    (hR : R (xs.map f) ⟨sl, c⟩) : lcL [a, b] (gTp 2 (gsC (fun d s R => R (s.set a (.d d))) (gsC (fun d s R => R (s.set b (.d d))) gsN))) dYes ε R sl [] (xs.map fun x => .tup [g x, h x]) c := by
  refine lc_ind (fun acc l c' => c' = c ∧ ∃ done rest, xs = done ++ rest ∧ l = (rest.map fun x => .tup [g x, h x]) ∧ acc = done.map f) ?_ ?_ _ _ _ ⟨rfl, [], xs, rfl, rfl, rfl⟩
  · rintro acc c' ⟨rfl, done, rest, e1, e2, rfl⟩
    cases rest with
    | nil =>
      simp at e1
      subst e1
      exact hR
    | cons z r => simp at e2
  · rintro acc x l c' K ⟨rfl, done, rest, e1, e2, rfl⟩ hK
    cases rest with
    | nil => simp at e2
    | cons z r =>
      simp at e2
      obtain ⟨rfl, rfl⟩ := e2
      have e0 : ((((sl.set a .no).set b .no).set a (.d (g z))).set b (.d (h z))) = (sl.set a (.d (g z))).set b (.d (h z)) := by
        rw [List.set_comm _ _ hab.symm, List.set_set, List.set_set]
      have e9 : ∀ s : List Slot, ((s.set a .no).set b .no) = ((s.set b .no).set a .no) := fun s => List.set_comm _ _ hab
      have hl2 : done.length + (r.length + 1) ≤ 10000 := by rw [e1] at hl; simpa using hl
      simp [S.set, swipe, e0, ha, hb, hab, hab.symm, safeL]
      refine ⟨?_, ?_⟩
      · rw [List.set_comm _ _ hab, List.set_set, List.set_set]
      · have e3 : (((sl.set b .no).set a (.d (g z))).set b (.d (h z))) = (sl.set a (.d (g z))).set b (.d (h z)) := by
          rw [List.set_comm _ _ hab.symm, List.set_set]
        rw [e3]
        exact hε z (by rw [e1]; simp) (fun y s4 => s4.sl = (sl.set a (.d (g z))).set b (.d (h z)) ∧ done.length < 10000 ∧ K (done.map f ++ [y]) s4.c) ⟨rfl, by omega, hK (done.map f ++ [f z]) c' ⟨rfl, done ++ [z], r, by simp [e1], rfl, by simp⟩⟩
theorem getD_mem {α : Type} {l : List α} {k : Nat} {d : α} (h : k < l.length) : l[k]? = some (l.getD k d) := by
  rw [List.getD_eq_getElem?_getD, List.getElem?_eq_getElem h]
  rfl
theorem behind_ok {N m n : Nat} {B : List Tie} {ps qs : List Nat} {Z Y : List Up} {d e g : D} (h1 : WayOk N m (Y.map Prod.fst) ps Z) (h2 : WayOk m n B qs Y) (hB : Web n B) (hd : Hand N (Z.map Prod.fst) d) (he : Hand m (Y.map Prod.fst) e) (hg : Hand n B g)
    (hR : R (wayD (thru qs Y ps Z).1 (thru qs Y ps Z).2) c) : Ψ_behind_web_map gm [d, e, g, wayD ps Z, wayD qs Y] c R RX := by
  refine ⟨rfl, ?_⟩
  simp [-lcL]
  refine web_from_ok hd h1.web ?_
  refine web_from_ok he h2.web ?_
  refine web_from_ok hg hB ?_
  refine wayfrom_ok h1 (dep_way 8 h1.p8 h1.z12) (tups_way ps Z) ?_
  refine wayfrom_ok h2 (dep_way 8 h2.p8 h2.z12) (tups_way qs Y) ?_
  simp [-lcL, atI1]
  have hY := h2.web
  have key : ∀ z ∈ Z, ∃ y, Y[z.2.1]? = some y ∧ Y.getD z.2.1 ((0, 0), 0, false) = y := fun z hz => by
    obtain ⟨q, hq, _⟩ := h1.at_ z hz
    rw [List.getElem?_map] at hq
    cases hy : Y[z.2.1]? with
    | none => rw [hy] at hq; cases hq
    | some y => exact ⟨y, rfl, by rw [List.getD_eq_getElem?_getD, hy]; rfl⟩
  refine lc_map2 (fun z : Up => endD ((Y.getD z.2.1 ((0, 0), 0, false)).2.1, xor (Y.getD z.2.1 ((0, 0), 0, false)).2.2 z.2.2)) (fun z : Up => D.int z.2.1) (fun z : Up => D.bl z.2.2) (by decide) (by simp) (by simp) (by have := h1.z12; omega) (fun z hz K hK => ?_) ?_
  · obtain ⟨y, e1, e2⟩ := key z hz
    rw [e2] at hK
    simp [atI0, atI1, atI_nat, e1]
    obtain ⟨z1, z2, z3⟩ := z
    obtain ⟨y1, y2, y3⟩ := y
    cases y3 <;> cases z3 <;> exact hK
  · simp [-lcL, atI0]
    refine lc_map (fun d => match d with | .int i => .int (qs.getD i.toNat 0) | _ => .non) (by simp) (by simp; have := h1.p8; omega) (fun x hx K hK => ?_) ?_
    · obtain ⟨p, hp, rfl⟩ := List.mem_map.mp hx
      have hq : qs[p]? = some (qs.getD p 0) := getD_mem (by rw [h2.len]; exact h1.lt p hp)
      simp only [Int.toNat_natCast] at hK
      generalize qs.getD p 0 = q at hq hK
      simp [atI0, atI_nat, hq]
      exact hK
    · simpa [thru, Function.comp_def, wayD, nsD] using hR
/-- the way behind another one is a way -/
theorem thru_ok {N m n : Nat} {B : List Tie} {ps qs : List Nat} {Z Y : List Up} (h1 : WayOk N m (Y.map Prod.fst) ps Z) (h2 : WayOk m n B qs Y) : WayOk N n B (thru qs Y ps Z).1 (thru qs Y ps Z).2 ∧ (thru qs Y ps Z).2.map Prod.fst = Z.map Prod.fst := by
  have e0 : (thru qs Y ps Z).2.map Prod.fst = Z.map Prod.fst := by simp [thru, Function.comp_def]
  refine ⟨⟨by rw [e0]; exact h1.web, by simp [thru, h1.len], fun p hp => ?_, fun z hz => ?_⟩, e0⟩
  · simp [thru, -List.getD_eq_getElem?_getD] at hp
    obtain ⟨a, ha, rfl⟩ := hp
    have := getD_mem (d := 0) (show a < qs.length by rw [h2.len]; exact h1.lt a ha)
    exact h2.lt _ (List.mem_of_getElem? this)
  · simp only [thru, List.mem_map] at hz
    obtain ⟨z, hz, rfl⟩ := hz
    have g1 : ∀ a, a < N → (thru qs Y ps Z).1.getD a 0 = qs.getD (ps.getD a 0) 0 := fun a ha => by
      have ha' : a < ps.length := by rw [h1.len]; exact ha
      simp [thru, ha']
    have oz := h1.web.ok z.1 (List.mem_map_of_mem hz)
    obtain ⟨q, hq, e1⟩ := h1.at_ z hz
    rw [List.getElem?_map] at hq
    cases hy : Y[z.2.1]? with
    | none => rw [hy] at hq; cases hq
    | some y =>
      rw [hy] at hq
      injection hq with hq
      have ey : Y.getD z.2.1 ((0, 0), 0, false) = y := by rw [List.getD_eq_getElem?_getD, hy]; rfl
      obtain ⟨w, hw, e2⟩ := h2.at_ y (List.mem_of_getElem? hy)
      refine ⟨w, by rw [ey]; exact hw, ?_⟩
      rw [ey, g1 _ oz.1, g1 _ oz.2.1, e2]
      have q1 : y.1.1 = q.1 := by rw [← hq]
      have q2 : y.1.2 = q.2 := by rw [← hq]
      rw [q1, q2, e1]
      cases y.2.2 <;> cases z.2.2 <;> rfl
end K74
namespace K74
open PySem DL
open L2 (atI)
variable {gm : Gm} {c : Int} {R : D → Int → Prop} {RX : DX → Int → Prop}
def Job (x : D) : Prop := ∃ N n B ps Z, x = .tup [webD N (Z.map Prod.fst), webD n B, wayD ps Z] ∧ Web n B ∧ WayOk N n B ps Z
theorem dep_up {d : D} (h : dep 6 d = true) : dep (2 + 4) d = true := h
theorem fit_bl (b : Bool) : Fit (PyData.bool b) := by
  obtain ⟨p, e, h⟩ := (sw_bl b).fit (by omega) (by omega)
  cases e
  exact h
theorem sw_nat {k : Nat} (h : k < 10 ^ 12) : Sw 0 40 (.int (k : Int)) := sw_int (by omega)
theorem sw_end {e : Nat × Bool} (h : e.1 < 10 ^ 12) : Sw 1 50 (endD e) :=
  (sw_tup (swl_cons (sw_nat h) (swl_cons (sw_bl e.2) swl_nil))).up (by omega) (by omega)
theorem sw_ns {ps : List Nat} (hl : ps.length ≤ 20) (h : ∀ p ∈ ps, p < 10 ^ 12) : Sw 1 1000 (.tup (nsD ps)) :=
  (sw_tup (swl_one fun d hd => by
    obtain ⟨p, hp, rfl⟩ := List.mem_map.mp hd
    exact sw_nat (h p hp))).up (by omega) (by simp; omega)
theorem sw_ends {Z : List Up} (hl : Z.length ≤ 20) (h : ∀ z ∈ Z, z.2.1 < 10 ^ 12) : Sw 2 2000 (.tup (Z.map fun z => endD z.2)) :=
  (sw_tup (swl_one (k := 1) (w := 50) fun d hd => by
    obtain ⟨z, hz, rfl⟩ := List.mem_map.mp hd
    exact sw_end (h z hz))).up (by omega) (by simp; omega)
theorem way_fit {N n : Nat} {B : List Tie} {ps : List Nat} {Z : List Up} (h : WayOk N n B ps Z) (hB : Web n B) : ∃ p, pyE (wayD ps Z) = some p ∧ Fit p := by
  have g1 : ∀ p ∈ ps, p < 10 ^ 12 := fun p hp => by
    have := h.lt p hp
    have := hB.n8
    omega
  have g2 : ∀ z ∈ Z, z.2.1 < 10 ^ 12 := fun z hz => by
    obtain ⟨q, hq, _⟩ := h.at_ z hz
    have := (List.getElem?_eq_some_iff.mp hq).1
    have := hB.t12
    omega
  have a := sw_ns (by have := h.p8; omega) g1
  have b := sw_ends (by have := h.z12; omega) g2
  exact (sw_tup (swl_cons a (swl_cons b swl_nil))).fit (by omega) (by omega)
theorem case_ok (c0 : 0 ≤ c) (c1 : c < 100000000000) (hR : ∀ c', c ≤ c' → c' ≤ c + 1000 → R (.bl true) c') : Ψ__law_case gm [] c R RX := by
  rw [cut__law_case]
  refine ⟨rfl, ?_⟩
  simp
  refine plain_web (most := 4) (ties := 5) (by omega) (by omega) (by omega) c0 (by omega) fun n B ca a1 a2 a3 a4 a5 a6 => ?_
  have hB : Web n B := ⟨a1, by omega, by omega, a4⟩
  unfold T1__law_case
  simp
  refine upon_ok (most := 6) (many := 8) hB (by omega) (by omega) (by omega) (by omega) (by omega) fun m qs Y cb b1 b2 h2 b3 b4 => ?_
  simp [atI0, atI1]
  unfold T2__law_case
  simp
  refine upon_ok (most := 8) (many := 10) h2.web (by omega) (by omega) (by omega) (by omega) (by omega) fun N ps Z cc d1 d2 h1 d3 d4 => ?_
  simp [atI0, atI1]
  unfold T3__law_case
  simp [-dForL, S.set, -lcL]
  refine for_ind (fun l s => (∀ x ∈ l, Job x) ∧ l.length ≤ 2 ∧ ∃ x6 x7 x8 x9 x11 c', s = ⟨[.pen, .d (webD n B), .d (webD m (Y.map Prod.fst)), .d (wayD qs Y), .d (webD N (Z.map Prod.fst)), .d (wayD ps Z), x6, x7, x8, x9, .no, x11, .no, .no, .no, .no, .no, .no, .no], c'⟩ ∧ cc ≤ c' ∧ c' ≤ cc + 20 * (2 - l.length)) ?_ ?_ _ _ ⟨?_, by simp, .no, .no, .no, .no, .no, cc, rfl, by omega, by simp⟩
  · rintro s ⟨-, -, x6, x7, x8, x9, x11, c', rfl, g1, g2⟩
    dsimp only
    unfold T4__law_case
    simp [S.set, -lcL]
    refine behind_ok h1 h2 hB (hand_t h1.web.t12) (hand_t h2.web.t12) (hand_t hB.t12) ?_
    unfold T5__law_case
    simp [S.set, -lcL, atI0, atI1]
    refine lc_map (fun d => match d with | .int i => .int (qs.getD i.toNat 0) | _ => .non) (by simp) (by simp; have := h1.p8; omega) (fun x hx K hK => ?_) ?_
    · obtain ⟨p, hp, rfl⟩ := List.mem_map.mp hx
      have hq : qs[p]? = some (qs.getD p 0) := getD_mem (by rw [h2.len]; exact h1.lt p hp)
      simp only [Int.toNat_natCast] at hK
      generalize qs.getD p 0 = q at hq hK
      simp [atI0, atI_nat, hq]
      exact hK
    have e1 : ((nsD ps).map fun d => match d with | .int i => D.int (qs.getD i.toNat 0) | _ => .non) = nsD (thru qs Y ps Z).1 := by simp [thru, Function.comp_def, nsD]
    rw [e1]
    unfold T6__law_case
    simp [S.set, -lcL, atI0, atI1, -pyE]
    have key : ∀ z ∈ Z, ∃ y, Y[z.2.1]? = some y ∧ Y.getD z.2.1 ((0, 0), 0, false) = y := fun z hz => by
      obtain ⟨q, hq, _⟩ := h1.at_ z hz
      rw [List.getElem?_map] at hq
      cases hy : Y[z.2.1]? with
      | none => rw [hy] at hq; cases hq
      | some y => exact ⟨y, rfl, by rw [List.getD_eq_getElem?_getD, hy]; rfl⟩
    refine lc_map2 (fun z : Up => endD ((Y.getD z.2.1 ((0, 0), 0, false)).2.1, xor (Y.getD z.2.1 ((0, 0), 0, false)).2.2 z.2.2)) (fun z : Up => D.int z.2.1) (fun z : Up => D.bl z.2.2) (by decide) (by simp) (by simp) (by have := h1.z12; omega) (fun z hz K hK => ?_) ?_
    · obtain ⟨y, e1, e2⟩ := key z hz
      rw [e2] at hK
      simp [atI0, atI1, atI_nat, e1]
      obtain ⟨z1, z2, z3⟩ := z
      obtain ⟨y1, y2, y3⟩ := y
      cases y3 <;> cases z3 <;> exact hK
    have e2 : (Z.map fun z : Up => endD ((Y.getD z.2.1 ((0, 0), 0, false)).2.1, xor (Y.getD z.2.1 ((0, 0), 0, false)).2.2 z.2.2)) = (thru qs Y ps Z).2.map fun z => endD z.2 := by simp [thru, Function.comp_def]
    rw [e2]
    obtain ⟨ho, hf⟩ := thru_ok h1 h2
    generalize (thru qs Y ps Z).1 = us at ho ⊢
    generalize (thru qs Y ps Z).2 = U at ho hf ⊢
    simp only [S.set]
    obtain ⟨p, g8, g9⟩ := way_fit ho hB
    simp [S.set, -lcL, atI0, atI1, -pyE]
    refine ⟨p, g8, g9, p, g8, g9, ?_⟩
    simp
    refine webmap_ok h1.web (hand_t h1.web.t12) hB (hand_t hB.t12) (dep_way 0 ho.p8 ho.z12) ?_
    have := way_true ho
    rw [hf] at this
    rw [this]
    exact hR _ (by omega) (by simp at g2; omega)
  · rintro x l s K ⟨hJ, hl, x6, x7, x8, x9, x11, c', rfl, g1, g2⟩ hK
    obtain ⟨N', n', B', ps', Z', rfl, hB', hw⟩ := hJ x List.mem_cons_self
    simp [-dForL, S.set, -lcL, atI0, atI1]
    refine lc_map (fun d => match d with | .tup l => .lst l | _ => .non) (by simp) (by have := hw.z12; simp; omega) (fun x hx K hK => ?_) ?_
    · obtain ⟨p, hp, rfl⟩ := List.mem_map.mp hx
      simpa using hK
    · simp [-dForL, S.set, -lcL, atI0, atI1]
      have hz' : (Z'.map Prod.fst).length ≤ 12 := by have := hw.z12; simpa using this
      have hk := hw.p8
      have hl1 : l.length ≤ 1 := by simp at hl; omega
      simp only [List.length_cons] at g2
      refine pick (by simp) (by simp) (by omega) (by omega) fun x hx => ?_
      have hh : Hand N' (Z'.map Prod.fst) x := by
        simp only [List.mem_cons, List.not_mem_nil, or_false] at hx
        rcases hx with rfl | rfl
        · exact hand_t hz'
        · have := hand_l (n := N') hz'
          rw [webL, List.map_map] at this
          exact this
      clear hx
      refine wrong_ok hB' hw (by omega) (by omega) fun w cd q1 q2 q3 q4 => ?_
      simp [-dForL, S.set, -lcL, atI0, atI1]
      refine ⟨by omega, ?_⟩
      refine for_ind (fun l s => (∀ v ∈ l, dep 6 v = true) ∧ ∃ x11, s = ⟨[.pen, .d (webD n B), .d (webD m (Y.map Prod.fst)), .d (wayD qs Y), .d (webD N (Z.map Prod.fst)), .d (wayD ps Z), .d (webD N' (Z'.map Prod.fst)), .d (webD n' B'), .d (wayD ps' Z'), .d x, .no, x11, .no, .no, .no, .no, .no, .no, .no], cd⟩) ?_ ?_ _ _ ⟨?_, x11, rfl⟩
      · rintro s ⟨-, y11, rfl⟩
        simp [-dForL, S.set, -lcL, atI0, atI1]
        refine lc_map (fun d => match d with | .tup l => .lst l | _ => .non) (by simp) (by have := hw.z12; simp; omega) (fun x hx K hK => ?_) ?_
        · obtain ⟨p, hp, rfl⟩ := List.mem_map.mp hx
          simpa using hK
        · simp [-dForL, S.set, -lcL, atI0, atI1, Function.comp_def]
          refine cover_ok hw hh hB' (hand_t hB'.t12) (dep_wayL 8 hk hw.z12) (tups_wayL ps' Z') ?_
          refine ⟨_, rfl, fit_bl _, ?_⟩
          refine lawcovers_is hw.len hw.web.n8 hB'.t12 hw.z12 ?_
          refine ⟨_, rfl, fit_bl _, .inl ⟨rfl, ?_⟩⟩
          exact hK _ ⟨fun x hx => hJ x (List.mem_cons_of_mem _ hx), by omega, _, _, _, _, _, _, rfl, by omega, by omega⟩
      · rintro v r s K2 ⟨hv, y11, rfl⟩ hK2
        simp [-dForL, S.set, -lcL, atI0, atI1]
        have hv1 := dep_up (hv v List.mem_cons_self)
        refine webmap_ok hw.web hh hB' (hand_t hB'.t12) hv1 ?_
        refine ⟨_, rfl, fit_bl _, ?_⟩
        refine lawway_is hw.web hv1 ?_
        refine ⟨_, rfl, fit_bl _, .inl ⟨rfl, ?_⟩⟩
        exact hK2 _ ⟨fun x hx => hv x (List.mem_cons_of_mem _ hx), _, rfl⟩
      · intro v hv
        rcases List.mem_cons.mp hv with rfl | hv
        · exact dep_way 2 hk hw.z12
        · exact q2 v hv
  · intro x hx
    simp only [List.mem_cons, List.not_mem_nil, or_false] at hx
    rcases hx with rfl | rfl
    · exact ⟨_, _, _, _, _, rfl, hB, h2⟩
    · exact ⟨_, _, _, _, _, rfl, h2.web, h1⟩
end K74
namespace K74
open PySem DL
open L2 (atI)
variable {gm : Gm} {c : Int} {R : D → Int → Prop} {RX : DX → Int → Prop}
/-! ### copies of a web beside each other: the plain part -/
def pos (n : Nat) (os : List Nat) (k p : Nat) : Nat := os.getD (k * n + p) 0
def mkZ (n : Nat) (B : List Tie) (os : List Nat) (k t : Nat) (b : Bool) : Up :=
  (if b = true then (pos n os k (B.getD t (0, 0)).2, pos n os k (B.getD t (0, 0)).1) else (pos n os k (B.getD t (0, 0)).1, pos n os k (B.getD t (0, 0)).2), t, b)
theorem row_lt {n many k p : Nat} (hk : k < many) (hp : p < n) : k * n + p < n * many := by
  have : (k + 1) * n ≤ many * n := Nat.mul_le_mul_right n hk
  rw [Nat.add_mul, Nat.one_mul] at this
  rw [Nat.mul_comm n many]
  omega
theorem row_inj {n k p k' p' : Nat} (hp : p < n) (hp' : p' < n) (h : k * n + p = k' * n + p') : k = k' ∧ p = p' := by
  have hn : 0 < n := by omega
  have e1 : (k * n + p) / n = k := by rw [Nat.add_comm, Nat.add_mul_div_right _ _ hn, Nat.div_eq_of_lt hp]; omega
  have e2 : (k' * n + p') / n = k' := by rw [Nat.add_comm, Nat.add_mul_div_right _ _ hn, Nat.div_eq_of_lt hp']; omega
  have e3 : k = k' := by rw [← e1, ← e2, h]
  subst e3
  exact ⟨rfl, by omega⟩
structure Od (n many : Nat) (os : List Nat) : Prop where
  pm : os.Perm (List.range (n * many))
theorem Od.len {n many : Nat} {os : List Nat} (h : Od n many os) : os.length = n * many := by
  have := h.pm.length_eq
  simpa using this
theorem pos_at {n many k p : Nat} {os : List Nat} (h : Od n many os) (hk : k < many) (hp : p < n) : os[k * n + p]? = some (pos n os k p) :=
  getD_mem (by rw [h.len]; exact row_lt hk hp)
theorem pos_lt {n many k p : Nat} {os : List Nat} (h : Od n many os) (hk : k < many) (hp : p < n) : pos n os k p < n * many := by
  have := List.mem_of_getElem? (pos_at h hk hp)
  have := h.pm.subset this
  simpa using this
theorem pos_inj {n many k p k' p' : Nat} {os : List Nat} (h : Od n many os) (hk : k < many) (hp : p < n) (hk' : k' < many) (hp' : p' < n) (e : pos n os k p = pos n os k' p') : k = k' ∧ p = p' := by
  have nd : os.Nodup := h.pm.nodup_iff.mpr List.nodup_range
  have a := pos_at h hk hp
  have b := pos_at h hk' hp'
  rw [← e] at b
  obtain ⟨l1, e1⟩ := List.getElem?_eq_some_iff.mp a
  obtain ⟨l2, e2⟩ := List.getElem?_eq_some_iff.mp b
  have pw := List.pairwise_iff_getElem.mp nd
  refine row_inj hp hp' ?_
  rcases Nat.lt_trichotomy (k * n + p) (k' * n + p') with q | q | q
  · exact absurd (by rw [e1, e2]) (pw _ _ l1 l2 q)
  · exact q
  · exact absurd (by rw [e1, e2]) (pw _ _ l2 l1 q)
theorem pos_sur {n many x : Nat} {os : List Nat} (h : Od n many os) (hn : 1 ≤ n) (hx : x < n * many) : ∃ k p, k < many ∧ p < n ∧ pos n os k p = x := by
  have : x ∈ os := h.pm.symm.subset (by simpa using hx)
  obtain ⟨i, hi0, e⟩ := List.getElem_of_mem this
  have hi := hi0
  rw [h.len] at hi
  have e1 : i / n * n + i % n = i := by rw [Nat.mul_comm]; exact Nat.div_add_mod i n
  refine ⟨i / n, i % n, Nat.div_lt_of_lt_mul hi, Nat.mod_lt _ (by omega), ?_⟩
  rw [pos, e1, List.getD_eq_getElem?_getD, List.getElem?_eq_getElem hi0, e]
  rfl
structure Cp (n many : Nat) (B : List Tie) (os ns : List Nat) (Z : List Up) (k p t : Nat) : Prop where
  nl : ns.length = n * many
  na : ∀ k' p', k' < many → p' < n → (k' < k ∨ (k' = k ∧ p' < p)) → ns.getD (pos n os k' p') 0 = p'
  lt : ∀ x ∈ ns, x < n
  zl : Z.length = k * B.length + t
  zm : ∀ z ∈ Z, ∃ k' t' b, k' < many ∧ t' < B.length ∧ z = mkZ n B os k' t' b
  ct : ∀ k0 t0 side, k0 < many → t0 < B.length → side < 2 → cnt t0 side (pos n os k0 (sdT side (B.getD t0 (0, 0)))) Z = if k0 < k ∨ (k0 = k ∧ t0 < t) then 1 else 0
theorem Cp.start {n many : Nat} {B : List Tie} {os : List Nat} (hn : 1 ≤ n) : Cp n many B os (List.replicate (n * many) 0) [] 0 0 0 :=
  ⟨by simp, fun k' p' _ _ h => by omega, fun x hx => by simp at hx; omega, by simp, by simp, fun k0 t0 side _ _ _ => by simp [cnt]⟩
theorem Cp.name {n many k p : Nat} {B : List Tie} {os ns : List Nat} {Z : List Up} (ho : Od n many os) (h : Cp n many B os ns Z k p 0) (hk : k < many) (hp : p < n) : Cp n many B os (ns.set (pos n os k p) p) Z k (p + 1) 0 := by
  refine ⟨by simp [h.nl], fun k' p' hk' hp' hh => ?_, fun x hx => ?_, h.zl, h.zm, h.ct⟩
  · have l1 : pos n os k p < ns.length := by rw [h.nl]; exact pos_lt ho hk hp
    rw [List.getD_eq_getElem?_getD, List.getElem?_set]
    by_cases e : pos n os k p = pos n os k' p'
    · obtain ⟨-, e2⟩ := pos_inj ho hk hp hk' hp' e
      rw [if_pos e, if_pos (by omega)]
      exact e2
    · rw [if_neg e, ← List.getD_eq_getElem?_getD]
      refine h.na k' p' hk' hp' ?_
      by_cases e2 : k' = k ∧ p' = p
      · exact absurd (by rw [e2.1, e2.2]) e
      · omega
  · rcases List.mem_or_eq_of_mem_set hx with m | rfl
    · exact h.lt x m
    · exact hp
theorem Cp.next {n many k : Nat} {B : List Tie} {os ns : List Nat} {Z : List Up} (h : Cp n many B os ns Z k n B.length) : Cp n many B os ns Z (k + 1) 0 0 := by
  refine ⟨h.nl, fun k' p' hk' hp' hh => h.na k' p' hk' hp' (by omega), h.lt, by rw [h.zl, Nat.add_mul]; omega, h.zm, fun k0 t0 side a b d => ?_⟩
  rw [h.ct k0 t0 side a b d]
  by_cases e : k0 < k ∨ (k0 = k ∧ t0 < B.length)
  · rw [if_pos e, if_pos (by omega)]
  · rw [if_neg e, if_neg (by omega)]
theorem hit_mk {n many k t k0 t0 side : Nat} {b : Bool} {B : List Tie} {os : List Nat} (ho : Od n many os) (hB : ∀ q ∈ B, OkT n q) (hk : k < many) (ht : t < B.length) (hk0 : k0 < many) (ht0 : t0 < B.length) (hs : side < 2) : hit t0 side (pos n os k0 (sdT side (B.getD t0 (0, 0)))) (mkZ n B os k t b) = decide (k = k0 ∧ t = t0) := by
  have o1 := hB _ (List.mem_of_getElem? (getD_mem (d := (0, 0)) ht))
  have o2 := hB _ (List.mem_of_getElem? (getD_mem (d := (0, 0)) ht0))
  by_cases e : t = t0
  · subst e
    have key : ∀ p, p < n → (decide (pos n os k p = pos n os k0 p)) = decide (k = k0) := fun p hp => by
      by_cases e : k = k0
      · subst e; simp
      · rw [decide_eq_false e, decide_eq_false fun q => e (pos_inj ho hk hp hk0 hp q).1]
    rcases (show side = 0 ∨ side = 1 by omega) with rfl | rfl <;> cases b <;> simp [mkZ, -List.getD_eq_getElem?_getD, key _ o1.1, key _ o1.2.1]
  · simp [mkZ, e]
theorem Cp.tie {n many k t : Nat} {B : List Tie} {os ns : List Nat} {Z : List Up} (ho : Od n many os) (hB : ∀ q ∈ B, OkT n q) (h : Cp n many B os ns Z k n t) (hk : k < many) (ht : t < B.length) (b : Bool) : Cp n many B os ns (Z ++ [mkZ n B os k t b]) k n (t + 1) := by
  refine ⟨h.nl, h.na, h.lt, by simp [h.zl]; omega, fun z hz => ?_, fun k0 t0 side a1 a2 a3 => ?_⟩
  · rcases List.mem_append.mp hz with m | m
    · exact h.zm z m
    · simp only [List.mem_cons, List.not_mem_nil, or_false] at m
      exact ⟨k, t, b, hk, ht, m⟩
  · rw [cnt, List.countP_append, List.countP_singleton, hit_mk ho hB hk ht a1 a2 a3]
    have := h.ct k0 t0 side a1 a2 a3
    rw [cnt] at this
    rw [this]
    simp only [decide_eq_true_eq]
    repeat' split
    all_goals omega
theorem Cp.way {n many : Nat} {B : List Tie} {os ns : List Nat} {Z Z' : List Up} (ho : Od n many os) (hB : Web n B) (hm : 1 ≤ many) (h8 : n * many ≤ 8) (h : Cp n many B os ns Z many 0 0) (hs : ∀ z ∈ Z', z ∈ Z) (hl : Z'.length ≤ 12) : WayOk (n * many) n B ns Z' := by
  refine ⟨⟨Nat.mul_pos hB.n1 hm, h8, by simpa using hl, fun q hq => ?_⟩, h.nl, h.lt, fun z hz => ?_⟩
  · obtain ⟨z, hz, rfl⟩ := List.mem_map.mp hq
    obtain ⟨k, t, b, hk, ht, rfl⟩ := h.zm z (hs z hz)
    obtain ⟨o1, o2, o3⟩ := hB.ok _ (List.mem_of_getElem? (getD_mem (d := (0, 0)) ht))
    have a := pos_lt ho hk o1
    have b' := pos_lt ho hk o2
    have c' : pos n os k (B.getD t (0, 0)).1 ≠ pos n os k (B.getD t (0, 0)).2 := fun e => o3 (pos_inj ho hk o1 hk o2 e).2
    cases b
    · exact ⟨a, b', c'⟩
    · exact ⟨b', a, c'.symm⟩
  · obtain ⟨k, t, b, hk, ht, rfl⟩ := h.zm z (hs z hz)
    obtain ⟨o1, o2, o3⟩ := hB.ok _ (List.mem_of_getElem? (getD_mem (d := (0, 0)) ht))
    refine ⟨_, getD_mem (d := (0, 0)) ht, ?_⟩
    have a := h.na k _ hk o1 (by omega)
    have a' := h.na k _ hk o2 (by omega)
    cases b
    · show B.getD t (0, 0) = (ns.getD (pos n os k (B.getD t (0, 0)).1) 0, ns.getD (pos n os k (B.getD t (0, 0)).2) 0)
      rw [a, a']
    · show B.getD t (0, 0) = (ns.getD (pos n os k (B.getD t (0, 0)).1) 0, ns.getD (pos n os k (B.getD t (0, 0)).2) 0)
      rw [a, a']
theorem Cp.cov {n many : Nat} {B : List Tie} {os ns : List Nat} {Z : List Up} (ho : Od n many os) (hB : Web n B) (h : Cp n many B os ns Z many 0 0) : covB (n * many) ns B Z = true := by
  refine covB_yes fun place t side hp ht hs e => ?_
  obtain ⟨k, p, hk, hp2, rfl⟩ := pos_sur ho hB.n1 hp
  rw [h.na k p hk hp2 (by omega)] at e
  subst e
  rw [h.ct k t side hk ht hs, if_pos (by omega)]
theorem Cp.bad {n many : Nat} {B : List Tie} {os ns : List Nat} {Z Z' : List Up} {z : Up} (ho : Od n many os) (hB : Web n B) (h : Cp n many B os ns Z many 0 0) (hz : z ∈ Z) (hc : ∀ t side place, hit t side place z = true → cnt t side place Z = 1 → cnt t side place Z' ≠ 1) : covB (n * many) ns B Z' = false := by
  obtain ⟨k, t, b, hk, ht, rfl⟩ := h.zm z hz
  obtain ⟨o1, o2, o3⟩ := hB.ok _ (List.mem_of_getElem? (getD_mem (d := (0, 0)) ht))
  refine covB_no (place := pos n os k (B.getD t (0, 0)).1) (t := t) (side := 0) (pos_lt ho hk o1) ht (by omega) (h.na k _ hk o1 (by omega)).symm (hc _ _ _ ?_ ?_)
  · have := hit_mk (b := b) (side := 0) ho hB.ok hk ht hk ht (by omega)
    rw [sdT, if_pos rfl] at this
    rw [this]
    simp
  · have := h.ct k t 0 hk ht (by omega)
    rw [sdT, if_pos rfl] at this
    rw [this, if_pos (by omega)]
theorem Cp.less {n many : Nat} {B : List Tie} {os ns : List Nat} {Z : List Up} {z : Up} (ho : Od n many os) (hB : Web n B) (h : Cp n many B os ns (z :: Z) many 0 0) : covB (n * many) ns B Z = false :=
  h.bad ho hB List.mem_cons_self fun t side place g1 g2 => by
    rw [cnt, List.countP_cons, g1, if_pos rfl] at g2
    rw [cnt]
    omega
theorem Cp.more {n many : Nat} {B : List Tie} {os ns : List Nat} {Z : List Up} {z : Up} (ho : Od n many os) (hB : Web n B) (h : Cp n many B os ns (z :: Z) many 0 0) : covB (n * many) ns B (z :: Z ++ [z]) = false :=
  h.bad ho hB List.mem_cons_self fun t side place g1 g2 => by
    rw [cnt, List.countP_append, List.countP_singleton, g1, if_pos rfl]
    rw [cnt] at g2
    omega
end K74
/-! defs' texts, cut -/
namespace K74
open PySem PySem.Spec PyProof.Rows L2 DL
def V5 (gm : Gm) (RX : DX → Int → Prop) : DS := (dRet (dOp (oIsB false) (dCall (Ψ_is_cover gm) RX (aCons (dVar 15) (aCons (dVar 1) (aCons (dTup (aCons (dCB cTup (aCons (dVar 4) aNil)) (aCons (dCB cTup (aCons (dOp oAddX (dVar 6) (dCut (dVar 6) oNo (oSome (dC (.int 1))))) aNil)) aNil))) aNil)))) (dC (.bl false))))
def V4 (gm : Gm) (RX : DX → Int → Prop) : DS := (dSeq (dIfS (tCm (oIsB true) (dCall (Ψ_is_cover gm) RX (aCons (dVar 14) (aCons (dVar 1) (aCons (dTup (aCons (dCB cTup (aCons (dVar 4) aNil)) (aCons (dCB cTup (aCons (dCut (dVar 6) (oSome (dC (.int 1))) oNo) aNil)) aNil))) aNil)))) (dC (.bl false))) (dRet (dC (.bl false))) (dNext)) (V5 gm RX))
def V3 (gm : Gm) (RX : DX → Int → Prop) : DS := (dSeq (dPar 14 15 (pD (dTup (aCons (dCB cLen (aCons (dVar 3) aNil)) (aCons (dCB cTup (aCons (dCut (dVar 5) (oSome (dC (.int 1))) oNo) aNil)) aNil)))) (pD (dTup (aCons (dCB cLen (aCons (dVar 3) aNil)) (aCons (dCB cTup (aCons (dOp oAddX (dVar 5) (dCut (dVar 5) oNo (oSome (dC (.int 1))))) aNil)) aNil))))) (V4 gm RX))
def V2 (gm : Gm) (RX : DX → Int → Prop) : DS := (dSeq (dIfS (tCm oEq (dVar 5) (dFz (lLst aNil))) (dRet (dC (.bl true))) (dNext)) (V3 gm RX))
def V1 (gm : Gm) (RX : DX → Int → Prop) : DS := (dSeq (dIfS (tCm (oIsB true) (dCall (Ψ_is_cover gm) RX (aCons (dVar 13) (aCons (dVar 1) (aCons (dTup (aCons (dCB cTup (aCons (dVar 4) aNil)) (aCons (dCB cTup (aCons (dVar 6) aNil)) aNil))) aNil)))) (dC (.bl true))) (dRet (dC (.bl false))) (dNext)) (V2 gm RX))
theorem cutT5 {gm : Gm} {RX : DX → Int → Prop} : T5__law_copies_hold gm RX = (dFrz 6 (dFrz 4 (dFrz 5 (dSeq (dSet 13 (dTup (aCons (dCB cLen (aCons (dVar 3) aNil)) (aCons (dCB cTup (aCons (dVar 5) aNil)) aNil)))) (V1 gm RX))))) := rfl
end K74
namespace K74
open PySem DL
open L2 (atI)
variable {gm : Gm} {c : Int} {R : D → Int → Prop} {RX : DX → Int → Prop}
def TS (Z : List Up) : List D := tsD (Z.map Prod.fst)
def ES (Z : List Up) : List D := Z.map fun z => endD z.2
theorem cut_tail {x : D} {l : List D} : cutD (x :: l) (some 1) none = l := by
  have e : HT.sIx (x :: l).length 0 (some 1) = 1 := by simp [HT.sIx]
  have e2 : HT.sIx (x :: l).length (x :: l).length none = (x :: l).length := by simp [HT.sIx]
  rw [cutD, e, e2]
  simp
theorem cut_head {x : D} {l : List D} : cutD (x :: l) none (some 1) = [x] := by
  have e : HT.sIx (x :: l).length (x :: l).length (some 1) = 1 := by simp [HT.sIx]
  have e2 : HT.sIx (x :: l).length 0 none = 0 := by simp [HT.sIx]
  rw [cutD, e, e2]
  simp
theorem v2_ok {n many : Nat} {B : List Tie} {os ns : List Nat} {Z : List Up} {x7 x8 x9 x10 x11 x12 x13 x14 x15 : DL.Slot} (hO : Od n many os) (hB : Web n B) (m1 : 1 ≤ many) (b8 : n * many ≤ 6) (zb : Z.length ≤ 8) (hC : Cp n many B os ns Z many 0 0) (hR : R (.bl true) c) :
    V2 gm RX ⟨[.pen, .d (webD n B), .d (.int many), .d (.lst (nsD os)), .d (.lst (nsD ns)), .d (.lst (TS Z)), .d (.lst (ES Z)), x7, x8, x9, x10, x11, x12, x13, x14, x15], c⟩ { nx := fun s => R .non s.c, rt := fun d s => R d s.c } := by
  have ol : (nsD os).length = n * many := by rw [← hO.len]; simp [nsD]
  unfold V2
  cases Z with
  | nil =>
    simp only [dSeq, dIfS, tCm, dOp, dVar, dFz, lLst, aNil, dRet, dC, dNext, List.getElem?_cons_zero, List.getElem?_cons_succ]
    refine ⟨by simp, .list [], .list [], rfl, rfl, rfl, rfl, true, rfl, ?_⟩
    exact hR
  | cons z Z =>
    have e5 : TS (z :: Z) = prD z.1 :: TS Z := rfl
    have e6 : ES (z :: Z) = endD z.2 :: ES Z := rfl
    have e7 : TS (z :: Z ++ [z]) = prD z.1 :: TS Z ++ [prD z.1] := by simp [TS]
    have e8 : ES (z :: Z ++ [z]) = endD z.2 :: ES Z ++ [endD z.2] := by simp [ES]
    have l1 : (TS Z).length = Z.length := by simp [TS]
    have l2 : (ES Z).length = Z.length := by simp [ES]
    have z8 : Z.length + 1 ≤ 8 := by simpa using zb
    have wl := hC.way hO hB m1 (by omega) (Z' := Z) (fun y h => List.mem_cons_of_mem _ h) (by omega)
    have wm := hC.way hO hB m1 (by omega) (Z' := z :: Z ++ [z]) (fun y h => by
      rcases List.mem_append.mp h with h | h
      · exact h
      · simp at h; subst h; exact List.mem_cons_self) (by simp; omega)
    have cl := hC.less hO hB
    have cm := hC.more hO hB
    simp only [dSeq, dIfS, tCm, dOp, dVar, dFz, lLst, aNil, dRet, dC, dNext, List.getElem?_cons_zero, List.getElem?_cons_succ]
    refine ⟨by simp, .list ((z :: Z).map fun p => PyData.tuple [.int p.1.1, .int p.1.2]), .list [], ?_, rfl, ?_, rfl, false, ?_, ?_⟩
    · show (pyEs (TS (z :: Z))).map PyData.list = _
      rw [TS, pyEs_ts]
      simp
    · have := shp_ts ((z :: Z).map Prod.fst)
      rw [List.map_map] at this
      exact this
    · rw [eqvE]; simp
    rw [if_neg (by decide)]
    unfold V3
    simp only [dSeq, dPar, pD, dTup, aCons, aNil, dCB, cLen, cTup, dCut, oSome, oNo, dC, dVar, dOp, oAddX, S.set, List.getElem?_cons_zero, List.getElem?_cons_succ, List.set_cons_succ, List.set_cons_zero, e5, cut_tail, cut_head]
    rw [ol]
    refine ⟨by simp, by simp [l1]; omega, by simp, ?_⟩
    unfold V4
    simp only [dSeq, dIfS, tCm, dRet, dOp, dCall, dVar, aCons, aNil, dTup, dCB, cTup, dC, dCut, oSome, oNo, dNext, S.set, List.getElem?_cons_zero, List.getElem?_cons_succ, List.set_cons_succ, List.set_cons_zero, e6, cut_tail, cut_head]
    refine ⟨by simp, ?_⟩
    refine cover_ok (ps := ns) (Z := Z) wl (hand_t wl.web.t12) hB (hand_t hB.t12) (dep_way 8 wl.p8 wl.z12) (tups_way ns Z) ?_
    rw [cl]
    refine ⟨false, rfl, ?_⟩
    rw [if_neg (by decide)]
    unfold V5
    simp only [dSeq, dIfS, tCm, dRet, dOp, dCall, dVar, aCons, aNil, dTup, dCB, cTup, dC, dCut, oSome, oNo, dNext, S.set, oAddX, List.getElem?_cons_zero, List.getElem?_cons_succ, List.set_cons_succ, List.set_cons_zero, cut_tail, cut_head]
    refine ⟨by simp [l2]; omega, by simp, ?_⟩
    rw [← e7, ← e8]
    refine cover_ok (ps := ns) (Z := z :: Z ++ [z]) wm (hand_t wm.web.t12) hB (hand_t hB.t12) (dep_way 8 wm.p8 wm.z12) (tups_way ns _) ?_
    rw [cm]
    exact hR
end K74
namespace K74
open PySem DL
open L2 (atI)
variable {gm : Gm} {c : Int} {R : D → Int → Prop} {RX : DX → Int → Prop}
theorem perm_ns {ys : List D} {l : List Nat} (h : ys.Perm (nsD l)) : ∃ os : List Nat, ys = nsD os ∧ os.Perm l := by
  have g : ∀ y ∈ ys, ∃ i : Nat, y = .int (i : Int) := fun y hy => by
    obtain ⟨i, _, e⟩ := List.mem_map.mp (h.subset hy)
    exact ⟨i, e.symm⟩
  refine ⟨ys.map fun d => match d with | .int i => i.toNat | _ => 0, ?_, ?_⟩
  · rw [nsD, List.map_map]
    conv => lhs; rw [← List.map_id ys]
    refine List.map_congr_left fun y hy => ?_
    obtain ⟨i, rfl⟩ := g y hy
    rfl
  · have := h.map fun d => match d with | .int i => i.toNat | _ => 0
    rwa [nsD, List.map_map, show ((fun d => match d with | D.int i => i.toNat | _ => 0) ∘ fun s : Nat => D.int (s : Int)) = id from rfl, List.map_id] at this
theorem TS_snoc (Z : List Up) (z : Up) : TS Z ++ [prD z.1] = TS (Z ++ [z]) := by simp [TS]
theorem ES_snoc (Z : List Up) (z : Up) : ES Z ++ [endD z.2] = ES (Z ++ [z]) := by simp [ES]
theorem atI_row {n many k p : Nat} {os : List Nat} (h : Od n many os) (hk : k < many) (hp : p < n) : atI (nsD os) ((k : Int) * n + p) = some (.int (pos n os k p)) := by
  have e : (k : Int) * n + p = ((k * n + p : Nat) : Int) := by simp
  rw [e, atI_nat, nsD, List.getElem?_map, pos_at h hk hp]
  rfl
theorem ixN_nat {l i : Nat} (h : i < l) : L2.ixN l (i : Int) = some i := by
  unfold L2.ixN
  simp
  omega
theorem nsD_set (ns : List Nat) (j p : Nat) : (nsD ns).set j (D.int (p : Int)) = nsD (ns.set j p) := by simp [nsD, List.map_set]
theorem copies_ok (c0 : 0 ≤ c) (c1 : c < 100000000000) (hR : ∀ c', c ≤ c' → c' ≤ c + 1000 → R (.bl true) c') : Ψ__law_copies_hold gm [] c R RX := by
  rw [cut__law_copies_hold]
  refine ⟨rfl, ?_⟩
  simp
  refine plain_web (most := 3) (ties := 4) (by omega) (by omega) (by omega) c0 (by omega) fun n B ca a1 a2 a3 a4 a5 a6 => ?_
  have hB : Web n B := ⟨a1, by omega, by omega, a4⟩
  unfold T1__law_copies_hold
  simp
  refine draw (by omega) (by omega) (by omega) (by omega) fun r r0 r1 => ?_
  obtain ⟨k, rfl⟩ := Int.eq_ofNat_of_zero_le r0
  unfold T2__law_copies_hold
  simp [atI0, atI1]
  have e1 : (1 + (k : Int)) = ((k + 1 : Nat) : Int) := by omega
  rw [e1]
  have m1 : 1 ≤ k + 1 := by omega
  have m2 : k + 1 ≤ 2 := by omega
  clear e1 r0 r1
  generalize k + 1 = many at m1 m2 ⊢
  clear k
  have b8 : n * many ≤ 6 := Nat.mul_le_mul a2 m2
  have e2 : (n : Int) * (many : Int) = ((n * many : Nat) : Int) := by simp
  rw [e2]
  refine ⟨?_, by omega, ?_⟩
  · exact .inr ⟨by omega, by omega⟩
  rw [Int.toNat_natCast]
  refine shuffled (by simp; omega) (by omega) (by omega) fun ys hys => ?_
  obtain ⟨os, rfl, ho⟩ : ∃ os : List Nat, ys = nsD os ∧ os.Perm (List.range (n * many)) := by
    exact perm_ns hys
  have hO : Od n many os := ⟨ho⟩
  have ol := hO.len
  unfold T3__law_copies_hold
  simp [-dForL, -lcL, S.set]
  refine ⟨by omega, by omega, by omega, ?_⟩
  have e9 : List.replicate os.length (D.int 0) = nsD (List.replicate (n * many) 0) := by rw [ol]; simp [nsD]
  rw [e9]
  unfold T4__law_copies_hold
  simp [-dForL, -lcL, S.set]
  refine ⟨by omega, ?_⟩
  have b9 : 0 ≤ (n : Int) * many ∧ (n : Int) * many ≤ 6 := by rw [e2]; omega
  refine for_rg (fun k s => ∃ ns Z x7 x8 x9 x10 x11 x12 c', s = ⟨[.pen, .d (webD n B), .d (.int many), .d (.lst (nsD os)), .own (.l (nsD ns)), .own (.l (TS Z)), .own (.l (ES Z)), x7, x8, x9, x10, x11, x12, .no, .no, .no], c'⟩ ∧ Cp n many B os ns Z k 0 0 ∧ (x8 = .no ∨ ∃ d, x8 = .d d) ∧ ca ≤ c' ∧ c' ≤ ca + 20 + 4 * k) ⟨List.replicate (n * many) 0, [], .no, .no, .no, .no, .no, .no, ca + 1 + (n : Int) * many, by simp [TS, ES], Cp.start a1, .inl rfl, by omega, by omega⟩ ?_ ?_
  · rintro s ⟨ns, Z, x7, x8, x9, x10, x11, x12, c', rfl, hC, -, g1, g2⟩
    dsimp only
    rw [cutT5]
    simp [-dForL, -lcL, S.set, -pyE, -pyEs]
    have zb : Z.length ≤ 8 := by
      have := hC.zl
      have : many * B.length ≤ 2 * 4 := Nat.mul_le_mul m2 a3
      omega
    have w0 := hC.way hO hB m1 (by omega) (Z' := Z) (fun _ h => h) (by omega)
    have v0 := hC.cov hO hB
    rw [ol]
    unfold V1
    simp only [dSeq, dIfS, tCm, dCall, aCons, aNil, dVar, dTup, dCB, cTup, dRet, dC, dNext, List.getElem?_cons_zero, List.getElem?_cons_succ]
    simp only [dOp, dCall, dVar, aCons, aNil, dTup, dCB, cTup, dC, List.getElem?_cons_zero, List.getElem?_cons_succ]
    refine ⟨by simp, ?_⟩
    refine cover_ok (ps := ns) (Z := Z) w0 (hand_t w0.web.t12) hB (hand_t hB.t12) (dep_way 8 w0.p8 w0.z12) (tups_way ns Z) ?_
    rw [v0]
    refine ⟨false, rfl, ?_⟩
    rw [if_neg (by decide)]
    exact v2_ok hO hB m1 b8 zb hC (hR _ (by omega) (by omega))
  · rintro k s K hk ⟨ns, Z, x7, x8, x9, x10, x11, x12, c', rfl, hC, h8, g1, g2⟩ hK
    simp [-dForL, -lcL, S.set, atI0, atI1]
    have cmk : L2.CMul (k : Int) (n : Int) := .inr ⟨by omega, by omega⟩
    have kn : 0 ≤ (k : Int) * n ∧ (k : Int) * n ≤ 6 := by
      have : k * n ≤ 6 := by
        have : (k + 1) * n ≤ many * n := Nat.mul_le_mul_right n hk
        rw [Nat.mul_comm many n, Nat.add_mul] at this
        omega
      have e : (k : Int) * n = ((k * n : Nat) : Int) := by simp
      omega
    refine ⟨by omega, ?_⟩
    refine for_rg (fun p s => ∃ ns x8, s = ⟨[.pen, .d (webD n B), .d (.int many), .d (.lst (nsD os)), .own (.l (nsD ns)), .own (.l (TS Z)), .own (.l (ES Z)), .d (.int k), x8, x9, x10, x11, x12, .no, .no, .no], c'⟩ ∧ Cp n many B os ns Z k p 0 ∧ (x8 = .no ∨ ∃ d, x8 = .d d)) ⟨ns, x8, rfl, hC, h8⟩ ?_ ?_
    · rintro s ⟨ns, x8, rfl, hC, h8⟩
      simp [-dForL, -lcL, S.set, atI0, atI1]
      refine ⟨by omega, ?_⟩
      refine for_rg (fun t s => ∃ Z x8 x9 x10 x11 x12 c2, s = ⟨[.pen, .d (webD n B), .d (.int many), .d (.lst (nsD os)), .own (.l (nsD ns)), .own (.l (TS Z)), .own (.l (ES Z)), .d (.int k), x8, x9, x10, x11, x12, .no, .no, .no], c2⟩ ∧ Cp n many B os ns Z k n t ∧ (x8 = .no ∨ ∃ d, x8 = .d d) ∧ c' ≤ c2 ∧ c2 ≤ c' + t) ⟨Z, x8, x9, x10, x11, x12, c', rfl, hC, h8, by omega, by omega⟩ ?_ ?_
      · rintro s ⟨Z, x8, x9, x10, x11, x12, c2, rfl, hC, h8, g3, g4⟩
        exact hK _ ⟨_, _, _, _, _, _, _, _, _, rfl, hC.next, h8, by omega, by omega⟩
      · rintro t s K2 ht ⟨Z, x8, x9, x10, x11, x12, c2, rfl, hC, h8, g3, g4⟩ hK2
        have hq : B[t]? = some (B.getD t (0, 0)) := getD_mem ht
        obtain ⟨o1, o2, o3⟩ := hB.ok _ (List.mem_of_getElem? hq)
        have hz : ∀ b, mkZ n B os k t b = (if b = true then (pos n os k (B.getD t (0, 0)).2, pos n os k (B.getD t (0, 0)).1) else (pos n os k (B.getD t (0, 0)).1, pos n os k (B.getD t (0, 0)).2), t, b) := fun _ => rfl
        have hT := fun b => hC.tie hO hB.ok hk ht b
        generalize B.getD t (0, 0) = q at hq o1 o2 o3 hz
        simp [-dForL, -lcL, S.set, atI0, atI1, atI_nat, hq]
        refine ⟨by rcases h8 with rfl | ⟨d, rfl⟩ <;> rfl, ?_⟩
        refine lc_map (fun d => match d with | .int p => .int (pos n os k p.toNat) | _ => .non) (by simp) (by simp) (fun x hx K hK => ?_) ?_
        · have : ∃ p, p < n ∧ x = .int (p : Int) := by
            simp only [List.mem_cons, List.not_mem_nil, or_false] at hx
            rcases hx with rfl | rfl
            · exact ⟨_, o1, rfl⟩
            · exact ⟨_, o2, rfl⟩
          obtain ⟨p, hp, rfl⟩ := this
          simp only [Int.toNat_natCast] at hK
          simp [S.set, atI0, atI1, atI_row hO hk hp]
          exact ⟨cmk, hK⟩
        · have zl := hC.zl
          have tl : (TS Z).length = Z.length := by simp [TS]
          have el : (ES Z).length = Z.length := by simp [ES]
          have zb : Z.length ≤ 8 := by
            have : k * B.length ≤ 1 * 4 := Nat.mul_le_mul (by omega) a3
            omega
          simp [-dForL, -lcL, S.set, atI0, atI1]
          refine draw (by omega) (by omega) (by omega) (by omega) fun r r0 r1 => ?_
          have hT := hT (decide (r = 1))
          rw [hz] at hT
          simp [-dForL, -lcL, S.set, atI0, atI1]
          by_cases e : r = 1
          · rw [if_pos e]
            rw [decide_eq_true e, if_pos rfl] at hT
            rw [decide_eq_true e]
            refine ⟨by omega, by omega, hK2 _ ⟨Z ++ [((pos n os k q.2, pos n os k q.1), t, true)], x8, .d (.int t), .d (.int (pos n os k q.1)), .d (.int (pos n os k q.2)), .d (.bl true), c2 + 1, ?_, hT, h8, by omega, by omega⟩⟩
            rw [← TS_snoc, ← ES_snoc]
            rfl
          · rw [if_neg e]
            rw [decide_eq_false e, if_neg (by decide)] at hT
            rw [decide_eq_false e]
            refine ⟨by omega, by omega, hK2 _ ⟨Z ++ [((pos n os k q.1, pos n os k q.2), t, false)], x8, .d (.int t), .d (.int (pos n os k q.1)), .d (.int (pos n os k q.2)), .d (.bl false), c2 + 1, ?_, hT, h8, by omega, by omega⟩⟩
            rw [← TS_snoc, ← ES_snoc]
            rfl
    · rintro p s K hp ⟨ns, x8, rfl, hC, h8⟩ hK
      simp [-dForL, -lcL, S.set, atI0, atI1, atI_row hO hk hp]
      have l1 : pos n os k p < ns.length := by rw [hC.nl]; exact pos_lt hO hk hp
      refine ⟨cmk, pos n os k p, ixN_nat l1, ?_⟩
      rw [nsD_set]
      exact hK _ ⟨_, _, rfl, hC.name hO hk hp, .inr ⟨_, rfl⟩⟩
end K74
namespace K74
open PySem DL
open L2 (atI)
variable {gm : Gm} {c : Int} {R : D → Int → Prop} {RX : DX → Int → Prop}
/-! ### items, rows, tables as they are told -/
theorem whole_i {i : Int} : Ψ_is_whole gm [.int i] c R RX ↔ R (.bl true) c := whole rfl
theorem whole_b {b : Bool} : Ψ_is_whole gm [.bl b] c R RX ↔ R (.bl false) c := whole rfl
theorem whole_t {l : List D} : Ψ_is_whole gm [.tup l] c R RX ↔ R (.bl false) c := whole rfl
theorem whole_l {l : List D} : Ψ_is_whole gm [.lst l] c R RX ↔ R (.bl false) c := whole rfl
theorem tof {l : List D} {n : Int} : Ψ_is_tuple_of gm [.tup l, .int n] c R RX ↔ R (.bl (decide ((l.length : Int) = n))) c := tuple_of rfl
theorem ex_tys {K : List String → Prop} : (∃ Ts : List String, [D.ty "tuple", D.ty "list"] = List.map D.ty Ts ∧ K Ts) ↔ K ["tuple", "list"] := by
  constructor
  · rintro ⟨Ts, e, h⟩
    match Ts, e with
    | [a, b], e =>
      simp at e
      obtain ⟨rfl, rfl⟩ := e
      exact h
  · exact fun h => ⟨_, rfl, h⟩
theorem all_t {α : Type} (l : List α) : (l.all fun _ => true) = true := List.all_eq_true.mpr fun _ _ => rfl
@[simp] def ratD (q : Rat) : D := .tup [.int q.num, .int (q.den : Int)]
def Itm (f : Int) (d : D) : Prop := (f = 0 ∧ ∃ q : Rat, d = ratD q) ∨ (f ≠ 0 ∧ ∃ i : Int, d = .int i ∧ 0 ≤ i ∧ i < f)
theorem q_gcd (q : Rat) : Nat.gcd q.num.natAbs (q.den : Int).natAbs = 1 := by
  have := q.reduced
  rw [Nat.Coprime] at this
  simpa using this
theorem lowest_ok {q : Rat} (hR : R (ratD q) c) : Ψ_lowest gm [.int q.num, .int (q.den : Int)] c R RX := by
  have h0 : (0 : Int) < q.den := by have := q.den_pos; omega
  refine ⟨rfl, ?_⟩
  have := q_gcd q
  simp only [Int.natAbs_natCast] at this
  simp [h0, this, S.set, q.den_pos]
  refine ⟨by simp [L2.CDiv], by simp [L2.CDiv], hR⟩
theorem told_ok {q : Rat} (hR : R (ratD q) c) : Ψ_told gm [ratD q] c R RX := by
  have h0 : (0 : Int) < q.den := by have := q.den_pos; omega
  refine ⟨rfl, ?_⟩
  simp [whole_t, whole_i, Ψ_is_pair, atI0, atI1, h0, q.den_pos, ex_tys, q.den_nz]
  exact lowest_ok hR
theorem itm_dep {f : Int} {d : D} {n : Nat} (h : Itm f d) : dep (n + 2) d = true ∧ tups d = d := by
  rcases h with ⟨_, q, rfl⟩ | ⟨_, i, rfl, _⟩
  · simp [dep, depL, tups, tupsL]
  · simp [dep, tups]
theorem is_item_ok {f : Int} {d : D} (h : Itm f d) (hR : R (.bl true) c) : Ψ_is_item gm [.int f, d] c R RX := by
  refine ⟨rfl, ?_⟩
  rcases h with ⟨rfl, q, rfl⟩ | ⟨h, i, rfl, h1, h2⟩
  · have h0 : (0 : Int) < q.den := by have := q.den_pos; omega
    simp [whole_t, whole_i, Ψ_is_pair, atI0, atI1, h0, q.den_pos, ex_tys, q.den_nz]
    exact hR
  · simp [whole_i, h, h1, h2]
    exact hR
theorem item_of_ok {f : Int} {d : D} (h : Itm f d) (hR : R d c) : Ψ_item_of gm [.int f, d] c R RX := by
  refine ⟨rfl, ?_⟩
  rcases h with ⟨rfl, q, rfl⟩ | ⟨h, i, rfl, h1, h2⟩
  · simp
    exact told_ok hR
  · simp [h]
    exact hR
def RowI (f : Int) (n : Nat) (d : D) : Prop := ∃ l, d = .tup l ∧ l.length = n ∧ ∀ x ∈ l, Itm f x
theorem tyN_itm {f : Int} {d : D} (h : Itm f d) : (tyN d).isSome = true := by
  rcases h with ⟨rfl, q, rfl⟩ | ⟨h, i, rfl, h1, h2⟩ <;> rfl
theorem bls_rep {α : Type} (l : List α) : blsD (l.map fun _ => D.bl true) = some (l.map fun _ => true) := by
  induction l with
  | nil => rfl
  | cons a l ih => simp [ih]
theorem is_row_ok {f : Int} {n : Nat} {d : D} (h : RowI f n d) (hn : n ≤ 1000) (hR : R (.bl true) c) : Ψ_is_row gm [.int f, d, .int n] c R RX := by
  obtain ⟨l, rfl, hl, h⟩ := h
  refine ⟨rfl, ?_⟩
  simp [tof, hl]
  refine lc_map (fun _ => .bl true) (by simp) (by omega) (fun x hx K hK => ?_) ?_
  · simp
    exact is_item_ok (h x hx) hK
  · refine ⟨_, bls_rep l, ?_⟩
    simpa [all_t] using hR
theorem told_row_ok {f : Int} {n : Nat} {d : D} (h : RowI f n d) (hn : n ≤ 1000) (hR : R d c) : Ψ_told_row gm [.int f, d] c R RX := by
  obtain ⟨l, rfl, hl, h⟩ := h
  refine ⟨rfl, ?_⟩
  simp
  refine lc_map (fun x => x) (by simp) (by omega) (fun x hx K hK => ?_) ?_
  · simp
    exact item_of_ok (h x hx) hK
  · simpa using hR
theorem loose_row_ok {f : Int} {n : Nat} {d : D} (h : RowI f n d) (hn : n ≤ 1000) (hR : R d c) : Ψ_loose_row gm [.int f, d] c R RX := by
  obtain ⟨l, rfl, hl, h⟩ := h
  refine ⟨rfl, ?_⟩
  simp [ex_tys]
  refine lc_map (fun x => x) (by simp) (by omega) (fun x hx K hK => ?_) ?_
  · simp
    refine in_tuples.mpr ⟨(itm_dep (n := 10) (h x hx)).1, ?_⟩
    rw [(itm_dep (n := 10) (h x hx)).2]
    exact hK
  · simpa using hR
def TabI (f : Int) (n : Nat) (l : List D) : Prop := l.length ≤ 4 ∧ ∀ x ∈ l, RowI f n x
theorem is_table_ok {f : Int} {n : Nat} {l : List D} (h : TabI f n l) (hn : n ≤ 1000) (hR : R (.bl true) c) : Ψ_is_table gm [.int f, .tup l, .int n] c R RX := by
  obtain ⟨hl, h⟩ := h
  refine ⟨rfl, ?_⟩
  simp
  refine lc_map (fun _ => .bl true) (by simp) (by omega) (fun x hx K hK => ?_) ?_
  · simp
    exact is_row_ok (h x hx) hn hK
  · refine ⟨_, bls_rep l, ?_⟩
    simpa [all_t] using hR
theorem loose_table_ok {f : Int} {n : Nat} {l : List D} (h : TabI f n l) (hn : n ≤ 1000) (hR : R (.tup l) c) : Ψ_loose_table gm [.int f, .tup l] c R RX := by
  obtain ⟨hl, h⟩ := h
  refine ⟨rfl, ?_⟩
  simp [ex_tys]
  refine lc_map (fun x => x) (by simp) (by omega) (fun x hx K hK => ?_) ?_
  · simp
    exact loose_row_ok (h x hx) hn hK
  · simpa using hR
end K74
namespace K74
open PySem DL
open L2 (atI)
variable {gm : Gm} {c : Int} {R : D → Int → Prop} {RX : DX → Int → Prop}
/-! ### Rooms -/
def TieI (f : Int) (ws : List Nat) (t : D) : Prop := ∃ (i j : Nat) (a b : List D), t = .tup [.int i, .int j, .tup a, .tup b] ∧ i < ws.length ∧ j < ws.length ∧ i ≠ j ∧ TabI f (ws.getD i 0) a ∧ TabI f (ws.getD j 0) b ∧ a.length = b.length
structure RoomsI (f : Int) (ws : List Nat) (ts : List D) : Prop where
  fd : f ∈ ([0, 2, 3, 5, 7] : List Int)
  n1 : 1 ≤ ws.length
  n8 : ws.length ≤ 8
  w4 : ∀ x ∈ ws, x ≤ 4
  w16 : ws.sum ≤ 16
  t12 : ts.length ≤ 12
  ti : ∀ t ∈ ts, TieI f ws t
theorem atI4_0 {a b d e : D} : atI [a, b, d, e] 0 = some a := rfl
theorem atI4_1 {a b d e : D} : atI [a, b, d, e] 1 = some b := rfl
theorem atI4_2 {a b d e : D} : atI [a, b, d, e] 2 = some d := rfl
theorem atI4_3 {a b d e : D} : atI [a, b, d, e] 3 = some e := rfl
theorem told_rows {f : Int} {n : Nat} {l : List D} {v : Nat} {sl : List DL.Slot} {K : List D → S → Prop} (h : TabI f n l) (hn : n ≤ 1000) (hv : v < sl.length) (h0 : sl[0]? = some (.d (.int f))) (v0 : v ≠ 0) (hR : K l ⟨sl, c⟩) :
    lcL [v] (fun d s R => R (s.set v (.d d))) dYes (dCall (Ψ_told_row gm) (fun _ _ => False) (aCons (dVar 0) (aCons (dVar v) aNil))) K sl [] l c := by
  refine lc_map (fun x => x) hv (by have := h.1; omega) (fun x hx Q hQ => ?_) (by simpa using hR)
  have e1 : (sl.set v (.d x))[0]? = some (.d (.int f)) := by rw [List.getElem?_set_ne v0]; exact h0
  have e2 : (sl.set v (.d x))[v]? = some (.d x) := by simp [hv]
  simp [e1, e2]
  exact told_row_ok (h.2 x hx) hn hQ
theorem getD_len {ws : List Nat} {i : Nat} (hi : i < ws.length) : (nsD ws)[i]? = some (.int (ws.getD i 0 : Nat)) := by
  rw [nsD, List.getElem?_map, getD_mem hi]
  rfl
theorem tie_from_ok {f : Int} {ws : List Nat} {t : D} (h : TieI f ws t) (hw : ∀ x ∈ ws, x ≤ 4) (hl : ws.length ≤ 8) (hR : R t c) : Ψ_tie_from gm [.int f, .tup (nsD ws), t] c R RX := by
  obtain ⟨i, j, a, b, rfl, hi, hj, hij, ha, hb, hab⟩ := h
  have wi : ws.getD i 0 ≤ 1000 := by have := hw _ (List.mem_of_getElem? (getD_mem (d := 0) hi)); omega
  have wj : ws.getD j 0 ≤ 1000 := by have := hw _ (List.mem_of_getElem? (getD_mem (d := 0) hj)); omega
  have gi := getD_len hi
  have gj := getD_len hj
  have la := ha.1
  refine ⟨rfl, ?_⟩
  simp only [dSeq, dIfS, tOrD, tNotD, tBool, dCB, aCons, aNil, dVar, dTup, dC, slots0, List.map, List.getElem?_cons_zero, List.getElem?_cons_succ, List.length_cons, List.length_nil]
  generalize ws.getD i 0 = m at *
  generalize ws.getD j 0 = n at *
  simp [ex_tys, atI4_0, atI4_1, atI4_2, atI4_3, S.set, -lcL]
  refine loose_table_ok ha wi ?_
  refine loose_table_ok hb wj ?_
  try simp [ex_tys, atI4_0, atI4_1, atI4_2, atI4_3, S.set, -lcL]
  refine lc_map (fun _ => .bl true) (by simp) (by simp) (fun x hx K hK => ?_) ?_
  · simp only [List.mem_cons, List.not_mem_nil, or_false] at hx
    rcases hx with rfl | rfl <;> simp [whole_i, hi, hj] <;> exact hK
  simp [atI_nat, gi, gj, hij, S.set, -lcL, ex_tys]
  have hij' : ¬ ((i : Int) = j) := by omega
  simp [hij', atI_nat, gi, gj, S.set, -lcL]
  refine is_table_ok ha wi ?_
  simp [hij', atI_nat, gi, gj, S.set, -lcL]
  refine is_table_ok hb wj ?_
  have l4 : ¬ (4 < (b.length : Int)) := by omega
  simp [hab, l4, S.set, -lcL]
  refine told_rows ha wi (by simp) (by simp) (by decide) ?_
  simp [-lcL]
  refine told_rows hb wj (by simp) (by simp) (by decide) ?_
  simpa using hR
theorem need_field_ok {f : Int} (h : f ∈ ([0, 2, 3, 5, 7] : List Int)) (hR : R .non c) : Ψ_need_field gm [.int f] c R RX := by
  refine ⟨rfl, ?_⟩
  simp [whole_i]
  simp at h
  rcases h with rfl | rfl | rfl | rfl | rfl <;> exact .inl ⟨by decide, hR⟩
theorem need_rooms_ok {ns : List Str} {ds : List D} (hR : R .non c) : Ψ_need_rooms gm [.obj (gm.a "Rooms") ns ds] c R RX := by
  refine ⟨rfl, ?_⟩
  simp
  exact hR
theorem intsD_ns : ∀ ws : List Nat, intsD (nsD ws) = some (ws.map fun n : Nat => (n : Int))
  | [] => rfl
  | w :: ws => by
    have := intsD_ns ws
    simp only [nsD, List.map_cons, intsD] at this ⊢
    rw [this]
    rfl
theorem sum_ns : ∀ ws : List Nat, (ws.map fun n : Nat => (n : Int)).sum = (ws.sum : Int)
  | [] => rfl
  | w :: ws => by
    have := sum_ns ws
    simp only [List.map_cons, List.sum_cons] at this ⊢
    rw [this]
    simp
theorem are_widths_ok {ws : List Nat} (h1 : 1 ≤ ws.length) (h8 : ws.length ≤ 8) (w4 : ∀ x ∈ ws, x ≤ 4) (w16 : ws.sum ≤ 16) (hR : R (.bl true) c) : Ψ_are_widths gm [.tup (nsD ws)] c R RX := by
  have e1 : ((1 : Int) ≤ (ws.length : Int)) := by omega
  have e2 : ¬ ((8 : Int) < (ws.length : Int)) := by omega
  refine ⟨rfl, ?_⟩
  simp [-lcL, e1, e2]
  refine lc_map (fun _ => .bl true) (by simp) (by simp; omega) (fun x hx K hK => ?_) ?_
  · obtain ⟨n, hn, rfl⟩ := List.mem_map.mp hx
    have := w4 n hn
    have e3 : (n : Int) ≤ 4 := by omega
    simp [whole_i, e3]
    exact hK
  · refine ⟨_, bls_rep _, ?_⟩
    simp [all_t]
    refine ⟨_, intsD_ns ws, ?_⟩
    rw [sum_ns]
    have e4 : decide ((ws.sum : Int) ≤ 16) = true := by simp; omega
    rw [e4]
    exact hR
def roomsD (gm : Gm) (f : Int) (ws : List Nat) (ts : List D) : D := .obj (gm.a "Rooms") ["field", "widths", "ties"] [.int f, .tup (nsD ws), .tup ts]
theorem tie_at {f : Int} {ws : List Nat} {t : D} (h : TieI f ws t) : ∃ (i j : Nat) (a b : D), t = .tup [.int i, .int j, a, b] := by
  obtain ⟨i, j, a, b, rfl, _⟩ := h
  exact ⟨i, j, _, _, rfl⟩
theorem rooms_ok {f : Int} {ws : List Nat} {ts : List D} (h : RoomsI f ws ts) (hR : R (roomsD gm f ws ts) c) : Ψ_Rooms gm [.int f, .tup (nsD ws), .tup ts] c R RX := by
  refine ⟨rfl, fun o => ?_⟩
  have t12 := h.t12
  have n8 := h.n8
  have e2 : ¬ ((12 : Int) < (ts.length : Int)) := by omega
  simp [-lcL]
  refine need_field_ok h.fd ?_
  simp [-lcL, S.set]
  refine in_tuples.mpr ⟨?_, ?_⟩
  · simp [dep, depL_ints]; omega
  have e5 : tups (.tup (nsD ws)) = .tup (nsD ws) := by simp [tups, tupsL_ints]
  rw [e5]
  try simp [-lcL, S.set]
  refine are_widths_ok h.n1 h.n8 h.w4 h.w16 ?_
  simp [-lcL, S.set, ex_tys, e2]
  refine lc_map (fun x => x) (by simp) (by omega) (fun x hx K hK => ?_) ?_
  · simp
    exact tie_from_ok (h.ti x hx) h.w4 h.n8 hK
  simp [-lcL, S.set]
  refine lc_map (fun _ => .bl false) (by simp) (by omega) (fun x hx K hK => ?_) ?_
  · obtain ⟨i, j, a, b, rfl⟩ := tie_at (h.ti x hx)
    simp
    exact hK
  have e6 : blsD (ts.map fun _ => D.bl false) = some (ts.map fun _ => false) := by
    generalize ts = l
    induction l with
    | nil => rfl
    | cons a l ih => simp [ih]
  refine ⟨_, e6, ?_⟩
  simp [postD, noO]
  exact hR
def tie2 : D → D
  | .tup l => .tup (cutD l none (some 2))
  | x => x
def webR (ws : List Nat) (ts : List D) : D := .tup [.int ws.length, .tup (ts.map tie2)]
theorem web_of_ok {f : Int} {ws : List Nat} {ts : List D} (h : RoomsI f ws ts) (hR : R (webR ws ts) c) : Ψ_web_of gm [roomsD gm f ws ts] c R RX := by
  have t12 := h.t12
  refine ⟨rfl, ?_⟩
  simp [-lcL]
  refine need_rooms_ok ?_
  simp [-lcL, Ψ_web_by, roomsD]
  refine ⟨_, rfl, ?_⟩
  simp [-lcL]
  refine ⟨_, rfl, ?_⟩
  refine lc_map tie2 (by simp) (by omega) (fun x hx K hK => ?_) ?_
  · obtain ⟨i, j, a, b, rfl⟩ := tie_at (h.ti x hx)
    simp
    exact hK
  · exact hR
theorem lawweb_ok {f : Int} {ws : List Nat} {ts : List D} (h : RoomsI f ws ts) (hR : R (webR ws ts) c) : Ψ__law_web_by gm [.tup (nsD ws), .tup ts] c R RX := by
  have t12 := h.t12
  refine ⟨rfl, ?_⟩
  simp [-lcL]
  refine lc_map tie2 (by simp) (by omega) (fun x hx K hK => ?_) ?_
  · obtain ⟨i, j, a, b, rfl⟩ := tie_at (h.ti x hx)
    simp
    exact hK
  · simpa [webR] using hR
theorem cut2 {a b : D} {l : List D} : cutD (a :: b :: l) none (some 2) = [a, b] := by
  have e : HT.sIx (a :: b :: l).length (a :: b :: l).length (some 2) = 2 := by simp [HT.sIx]
  have e2 : HT.sIx (a :: b :: l).length 0 none = 0 := by simp [HT.sIx]
  rw [cutD, e, e2]
  simp
theorem webR_fit {f : Int} {ws : List Nat} {ts : List D} (h : RoomsI f ws ts) : ∃ p, pyE (webR ws ts) = some p ∧ Fit p := by
  have n8 := h.n8
  have t12 := h.t12
  have key : ∀ x ∈ ts.map tie2, Sw 1 100 x := fun x hx => by
    obtain ⟨t, ht, rfl⟩ := List.mem_map.mp hx
    obtain ⟨i, j, a, b, rfl, hi, hj, _⟩ := h.ti t ht
    rw [tie2, cut2]
    exact (sw_tup (swl_cons (sw_nat (k := i) (by omega)) (swl_cons (sw_nat (k := j) (by omega)) swl_nil))).up (by omega) (by omega)
  exact (sw_tup (swl_cons (sw_nat (k := ws.length) (by omega)) (swl_cons (sw_tup (swl_one key)) swl_nil))).fit (by omega) (by simp; omega)
end K74
namespace K74
open PySem DL
open L2 (atI)
variable {gm : Gm} {c : Int} {R : D → Int → Prop} {RX : DX → Int → Prop}
theorem ibits_le {x : Int} {n : Nat} : Builtin.Int.intBits x ≤ n ↔ x.natAbs < 2 ^ n := intBits_le_iff
theorem gcd_step {a b k B : Nat} (hb : b ≠ 0) (hle : b ≤ a) (h : a * b * 2 ^ (k - 1) < 2 ^ (2 * B)) (hk : 1 ≤ k) : a % b ≤ b ∧ b * (a % b) * 2 ^ (k + 1 - 1) < 2 ^ (2 * B) := by
  have h1 : a % b < b := Nat.mod_lt _ (by omega)
  have h2 : b * (a / b) + a % b = a := Nat.div_add_mod a b
  have h3 : 1 ≤ a / b := (Nat.one_le_div_iff (by omega)).mpr hle
  have h4 : b * 1 ≤ b * (a / b) := Nat.mul_le_mul_left _ h3
  have h5 : 2 * (a % b) ≤ a := by omega
  refine ⟨by omega, Nat.lt_of_le_of_lt ?_ h⟩
  obtain ⟨j, rfl⟩ : ∃ j, k = j + 1 := ⟨k - 1, by omega⟩
  have e1 : j + 1 + 1 - 1 = j + 1 := by omega
  have e2 : j + 1 - 1 = j := by omega
  rw [e1, e2, Nat.pow_succ]
  calc b * (a % b) * (2 ^ j * 2) = b * (2 * (a % b)) * 2 ^ j := by
        rw [Nat.mul_comm (2 ^ j) 2, ← Nat.mul_assoc, Nat.mul_assoc b, Nat.mul_comm (a % b) 2]
    _ ≤ b * a * 2 ^ j := Nat.mul_le_mul_right _ (Nat.mul_le_mul_left _ h5)
    _ = a * b * 2 ^ j := by rw [Nat.mul_comm b a]
theorem gcd_end {a b B : Nat} (hle : b ≤ a) (h : a * b * 2 ^ (4 + 2 * B - 1) < 2 ^ (2 * B)) : b = 0 := by
  have e : 4 + 2 * B - 1 = 3 + 2 * B := by omega
  rw [e, Nat.pow_add] at h
  have p : 0 < 2 ^ (2 * B) := Nat.pow_pos (by omega)
  by_cases hb : b = 0
  · exact hb
  · have h1 : 1 ≤ a * b := Nat.mul_pos (by omega) (by omega)
    have h2 : 1 * (2 ^ 3 * 2 ^ (2 * B)) ≤ a * b * (2 ^ 3 * 2 ^ (2 * B)) := Nat.mul_le_mul_right _ h1
    omega
theorem gcd_ok {x y : Int} (hy : Builtin.Int.intBits y ≤ 4000) (hR : R (.int (Nat.gcd x.natAbs y.natAbs : Nat)) c) : Ψ__law_gcd gm [.int x, .int y] c R RX := by
  refine ⟨rfl, ?_⟩
  have ax : (if x < 0 then -x else x) = (x.natAbs : Int) := by split <;> omega
  have ay : (if y < 0 then -y else y) = (y.natAbs : Int) := by split <;> omega
  simp [ax, ay]
  generalize ea : x.natAbs = a0 at *
  generalize eb : y.natAbs = b0 at *
  have hB : Builtin.Int.intBits (b0 : Int) ≤ 4000 := by
    refine intBits_le_iff.mpr ?_
    have := intBits_le_iff.mp hy
    rw [eb] at this
    exact this
  have hb0 : b0 < 2 ^ Builtin.Int.intBits (b0 : Int) := (intBits_le_iff (x := (b0 : Int))).mp (Nat.le_refl _)
  generalize Builtin.Int.intBits (b0 : Int) = B at *
  refine ⟨.inl ⟨by omega, by omega⟩, ⟨by omega, by omega⟩, ?_⟩
  rw [show ((4 : Int) + 2 * (B : Int)).toNat = 4 + 2 * B by omega]
  refine for_rg (fun k s => ∃ (a b : Nat) (x2 : Slot), Nat.gcd a b = Nat.gcd a0 b0 ∧ (k = 0 → b = b0) ∧ (1 ≤ k → b ≤ a ∧ a * b * 2 ^ (k - 1) < 2 ^ (2 * B)) ∧ s = ⟨[.d (.int a), .d (.int b), x2], c⟩) ⟨a0, b0, .no, rfl, fun _ => rfl, fun h => absurd h (by omega), rfl⟩ ?_ ?_
  · rintro s ⟨a, b, x2, hg, _, h1, rfl⟩
    obtain ⟨h1, h2⟩ := h1 (by omega)
    have := gcd_end h1 h2
    subst this
    rw [Nat.gcd_zero_right] at hg
    rw [← hg] at hR
    exact hR
  · rintro k s K hk ⟨a, b, x2, hg, h0, h1, rfl⟩ hK
    by_cases hb : b = 0
    · subst hb
      rw [Nat.gcd_zero_right] at hg
      rw [← hg] at hR
      simp
      exact hR
    · have hb' : ¬ ((b : Int) = 0) := by omega
      simp [hb', hb]
      have g2 : Nat.gcd b (a % b) = Nat.gcd a0 b0 := by
        rw [← hg, Nat.gcd_comm a b, Nat.gcd_rec b a, Nat.gcd_comm]
      refine ⟨by omega, ?_⟩
      refine hK _ ⟨b, a % b, .d (.int k), g2, fun h => absurd h (by omega), fun _ => ?_, ?_⟩
      · by_cases k0 : k = 0
        · subst k0
          have hbb := h0 rfl
          subst hbb
          have h1 : a % b < b := Nat.mod_lt _ (by omega)
          refine ⟨by omega, ?_⟩
          have e : 2 * B = B + B := by omega
          rw [e, Nat.pow_add]
          show b * (a % b) * 1 < _
          rw [Nat.mul_one]
          exact Nat.mul_lt_mul'' hb0 (by omega)
        · obtain ⟨h1, h2⟩ := h1 (by omega)
          exact gcd_step hb h1 h2 (by omega)
      · rfl

/-- a ratio of two numbers, in lowest terms -/
theorem lawq_ok {a b : Int} (hb : 0 < b) (hb2 : b < 1073741824) (hR : R (ratD (mkRat a b.toNat)) c) : Ψ__law_q gm [.int a, .int b] c R RX := by
  have hy : Builtin.Int.intBits b ≤ 4000 := by
    refine intBits_le_iff.mpr ?_
    have : b.natAbs < 2 ^ 30 := by omega
    exact Nat.lt_of_lt_of_le this (Nat.pow_le_pow_right (by omega) (by omega))
  have hn : b.toNat ≠ 0 := by omega
  have g0 : 0 < Nat.gcd a.natAbs b.natAbs := Nat.gcd_pos_of_pos_right _ (by omega)
  have g1 : Nat.gcd a.natAbs b.natAbs ≤ b.natAbs := Nat.gcd_le_right _ (by omega)
  have e1 : b.toNat = b.natAbs := by omega
  rw [mkRat, dif_neg hn, Rat.normalize_eq] at hR
  simp only [ratD] at hR
  rw [e1] at hR
  refine ⟨rfl, ?_⟩
  simp [S.set]
  refine gcd_ok hy ?_
  have h0 : ¬ (b < 0) := by omega
  simp [h0]
  refine ⟨⟨by omega, by omega⟩, ⟨by omega, by omega⟩, ?_⟩
  have e2 : ((b.natAbs / Nat.gcd a.natAbs b.natAbs : Nat) : Int) = b / (Nat.gcd a.natAbs b.natAbs : Nat) := by
    rw [Int.natCast_ediv]
    congr 1
    omega
  rw [e2] at hR
  exact hR
end K74
namespace K74
open PySem DL
open L2 (atI)
variable {gm : Gm} {c : Int} {R : D → Int → Prop} {RX : DX → Int → Prop}
/-! ### drawn rooms -/
theorem widths_ok {many most total : Nat} (hm : many ≤ 8) (h1 : most ≤ 900) (c0 : 0 ≤ c) (c1 : c < 400000000000) (hR : ∀ ws : List Nat, ws.length = many → (∀ x ∈ ws, x ≤ most) → ws.sum ≤ total → R (.tup (nsD ws)) (c + many)) : Ψ__law_widths gm [.int many, .int most, .int total] c R RX := by
  refine ⟨rfl, ?_⟩
  simp [-dForL, S.set]
  refine ⟨by omega, ?_⟩
  refine for_rg (fun k s => ∃ ws x5, s = ⟨[.pen, .d (.int many), .d (.int most), .d (.int total), .own (.l (nsD ws)), x5], c + k⟩ ∧ ws.length = k ∧ (∀ x ∈ ws, x ≤ most) ∧ ws.sum ≤ total) ⟨[], .no, by simp, rfl, by simp, by simp⟩ ?_ ?_
  · rintro s ⟨ws, x5, rfl, h1, h2, h3⟩
    simp
    exact hR ws h1 h2 h3
  · rintro k s K hk ⟨ws, x5, rfl, h1, h2, h3⟩ hK
    simp [-dForL, S.set]
    refine draw (by omega) (by omega) (by omega) (by omega) fun r r0 r1 => ?_
    simp
    refine ⟨_, intsD_ns ws, by omega, ?_⟩
    rw [sum_ns]
    obtain ⟨n, hn, n1, n2⟩ : ∃ n : Nat, (if (total : Int) - (ws.sum : Int) < r then (total : Int) - ws.sum else r) = (n : Int) ∧ n ≤ most ∧ ws.sum + n ≤ total := by
      refine ⟨(if (total : Int) - (ws.sum : Int) < r then (total : Int) - ws.sum else r).toNat, ?_, ?_, ?_⟩ <;> split <;> omega
    rw [hn]
    refine hK _ ⟨ws ++ [n], .d (.int k), by simp; omega, by simp; omega, fun x hx => ?_, by simp; omega⟩
    rcases List.mem_append.mp hx with hx | hx
    · exact h2 x hx
    · simp at hx; omega
theorem number_ok (c0 : 0 ≤ c) (c1 : c < 400000000000) (hR : ∀ q : Rat, R (ratD q) (c + 2)) : Ψ__law_number gm [.int 3] c R RX := by
  refine ⟨rfl, ?_⟩
  simp [S.set]
  refine ⟨.inl ⟨by omega, by omega⟩, ?_⟩
  refine draw (by omega) (by omega) (by omega) (by omega) fun r r0 r1 => ?_
  refine pick (by simp) (by simp) (by omega) (by omega) fun x hx => ?_
  simp only [List.mem_cons, List.not_mem_nil, or_false] at hx
  have e : c + 1 + 1 = c + 2 := by omega
  rcases hx with rfl | rfl | rfl | rfl | rfl <;> simp only [e] <;> exact lawq_ok (by omega) (by omega) (hR _)
theorem field_ok (c0 : 0 ≤ c) (c1 : c < 400000000000) (hR : ∀ f : Int, f ∈ ([0, 2, 3, 5, 7] : List Int) → R (.int f) (c + 1)) : Ψ__law_field gm [] c R RX := by
  refine ⟨rfl, ?_⟩
  simp
  refine pick (by simp) (by simp) (by omega) (by omega) fun x hx => ?_
  simp only [List.mem_cons, List.not_mem_nil, or_false] at hx
  rcases hx with rfl | rfl | rfl | rfl | rfl | rfl <;> exact hR _ (by decide)
theorem item_ok {f : Int} (hf : f ∈ ([0, 2, 3, 5, 7] : List Int)) (c0 : 0 ≤ c) (c1 : c < 400000000000) (hR : ∀ d c', Itm f d → c ≤ c' → c' ≤ c + 2 → R d c') : Ψ__law_item gm [.int f] c R RX := by
  refine ⟨rfl, ?_⟩
  by_cases h : f = 0
  · subst h
    simp
    exact number_ok c0 c1 fun q => hR _ _ (.inl ⟨rfl, q, rfl⟩) (by omega) (by omega)
  · simp [h]
    have : 0 < f ∧ f < 10 := by
      simp only [List.mem_cons, List.not_mem_nil, or_false] at hf
      omega
    exact draw (by omega) (by omega) (by omega) (by omega) fun r r0 r1 => hR _ _ (.inr ⟨h, r, rfl, r0, r1⟩) (by omega) (by omega)
theorem row_ok {f : Int} {n : Nat} (hf : f ∈ ([0, 2, 3, 5, 7] : List Int)) (hn : n ≤ 10) (c0 : 0 ≤ c) (c1 : c < 300000000000) (hR : ∀ d c', RowI f n d → c ≤ c' → c' ≤ c + 20 → R d c') : Ψ__law_row gm [.int f, .int n] c R RX := by
  refine ⟨rfl, ?_⟩
  simp [-lcL]
  refine ⟨by omega, ?_⟩
  refine lc_ind (fun acc l c' => acc.length + l.length = n ∧ (∀ x ∈ acc, Itm f x) ∧ c ≤ c' ∧ c' ≤ c + 2 * acc.length) ?_ ?_ _ _ _ ⟨by simp, by simp, by omega, by simp⟩
  · rintro acc c' ⟨h1, h2, h3, h4⟩
    simp at h1
    exact hR _ _ ⟨acc, rfl, h1, h2⟩ h3 (by show c' ≤ _; omega)
  · rintro acc x xs c' K ⟨h1, h2, h3, h4⟩ hK
    simp at h1
    simp
    refine item_ok hf (by omega) (by omega) fun d c2 g1 g2 g3 => ⟨by omega, ?_⟩
    refine hK _ _ ⟨by simp; omega, fun y hy => ?_, by omega, by simp; omega⟩
    rcases List.mem_append.mp hy with hy | hy
    · exact h2 y hy
    · simp at hy; subst hy; exact g1
theorem table_ok {f : Int} {n m : Nat} (hf : f ∈ ([0, 2, 3, 5, 7] : List Int)) (hn : n ≤ 10) (hm : m ≤ 4) (c0 : 0 ≤ c) (c1 : c < 200000000000) (hR : ∀ l c', l.length = m → TabI f n l → c ≤ c' → c' ≤ c + 100 → R (.tup l) c') : Ψ__law_table gm [.int f, .int m, .int n] c R RX := by
  refine ⟨rfl, ?_⟩
  simp [-lcL]
  refine ⟨by omega, ?_⟩
  refine lc_ind (fun acc l c' => acc.length + l.length = m ∧ (∀ x ∈ acc, RowI f n x) ∧ c ≤ c' ∧ c' ≤ c + 20 * acc.length) ?_ ?_ _ _ _ ⟨by simp, by simp, by omega, by simp⟩
  · rintro acc c' ⟨h1, h2, h3, h4⟩
    simp at h1
    exact hR _ _ h1 ⟨by omega, h2⟩ h3 (by show c' ≤ _; omega)
  · rintro acc x xs c' K ⟨h1, h2, h3, h4⟩ hK
    simp at h1
    simp
    refine row_ok hf hn (by omega) (by omega) fun d c2 g1 g2 g3 => ⟨by omega, ?_⟩
    refine hK _ _ ⟨by simp; omega, fun y hy => ?_, by omega, by simp; omega⟩
    rcases List.mem_append.mp hy with hy | hy
    · exact h2 y hy
    · simp at hy; subst hy; exact g1
theorem lawrooms_ok {f : Int} (hf : f ∈ ([0, 2, 3, 5, 7] : List Int)) (c0 : 0 ≤ c) (c1 : c < 100000000000) (hR : ∀ ws ts c', RoomsI f ws ts → c ≤ c' → c' ≤ c + 3000 → R (.tup [.tup (nsD ws), .tup ts]) c') : Ψ__law_rooms gm [.int f, .int 5, .int 6, .int 5] c R RX := by
  refine ⟨rfl, ?_⟩
  simp [-dForL, S.set]
  refine draw (by omega) (by omega) (by omega) (by omega) fun r r0 r1 => ?_
  obtain ⟨n, rfl⟩ := Int.eq_ofNat_of_zero_le r0
  have e1 : (1 + (n : Int)) = ((n + 1 : Nat) : Int) := by omega
  simp only [e1]
  refine widths_ok (most := 3) (total := 6) (by omega) (by omega) (by omega) (by omega) fun ws w1 w2 w3 => ?_
  have hl : ws.length = n + 1 := w1
  simp [-dForL, S.set]
  have fin : ∀ (ts : List D) (c' : Int), ts.length ≤ 12 → (∀ t ∈ ts, TieI f ws t) → c ≤ c' → c' ≤ c + 3000 → R (.tup [.tup (nsD ws), .tup ts]) c' := fun ts c' h1 h2 => hR ws ts c' ⟨hf, by omega, by omega, fun x hx => by have := w2 x hx; omega, by omega, h1, h2⟩
  by_cases h1 : (1 : Int) < ws.length
  · simp [h1, -dForL, S.set]
    refine draw (by omega) (by omega) (by omega) (by omega) fun m m0 m1 => ?_
    obtain ⟨m, rfl⟩ := Int.eq_ofNat_of_zero_le m0
    simp [-dForL, S.set]
    refine ⟨by omega, ?_⟩
    generalize hcc : c + 1 + ((n : Int) + 1) + 1 = cc
    have cc1 : cc ≤ c + 10 := by omega
    refine for_rg (fun k s => ∃ ts x7 x8 x9 x10 c', s = ⟨[.pen, .d (.int f), .d (.int 5), .d (.int 6), .d (.int 5), .d (.tup (nsD ws)), .own (.l ts), x7, x8, x9, x10], c'⟩ ∧ ts.length = k ∧ (∀ t ∈ ts, TieI f ws t) ∧ cc ≤ c' ∧ c' ≤ cc + 300 * k) ⟨[], .no, .no, .no, .no, cc, rfl, rfl, by simp, by omega, by omega⟩ ?_ ?_
    · rintro s ⟨ts, x7, x8, x9, x10, c', rfl, g1, g2, g3, g4⟩
      simp
      exact fin ts c' (by omega) g2 (by omega) (by omega)
    · rintro k s K hk ⟨ts, x7, x8, x9, x10, c', rfl, g1, g2, g3, g4⟩ hK
      have k5 : k ≤ 5 := by omega
      simp [-dForL, S.set, hl]
      refine ⟨by omega, ?_⟩
      refine shuffled (by simp; omega) (by omega) (by omega) fun ys hp => ?_
      obtain ⟨p, ok2, e2⟩ := two_first (n := n + 1) (by omega) hp
      obtain ⟨p1, p2, p3⟩ := ok2
      have gi := getD_len (ws := ws) (i := p.1) (by omega)
      have gj := getD_len (ws := ws) (i := p.2) (by omega)
      have wi : ws.getD p.1 0 ≤ 10 := by have := w2 _ (List.mem_of_getElem? (getD_mem (l := ws) (k := p.1) (d := 0) (by omega))); omega
      have wj : ws.getD p.2 0 ≤ 10 := by have := w2 _ (List.mem_of_getElem? (getD_mem (l := ws) (k := p.2) (d := 0) (by omega))); omega
      have tie : ∀ (a b : List D), TabI f (ws.getD p.1 0) a → TabI f (ws.getD p.2 0) b → a.length = b.length → TieI f ws (.tup [.int p.1, .int p.2, .tup a, .tup b]) := fun a b ha hb hab => ⟨p.1, p.2, a, b, rfl, by omega, by omega, p3, ha, hb, hab⟩
      generalize ws.getD p.1 0 = u at *
      generalize ws.getD p.2 0 = v at *
      simp [e2, -dForL, S.set]
      refine pick (by simp) (by simp) (by omega) (by omega) fun x hx => ?_
      obtain ⟨t, rfl, t4⟩ : ∃ t : Nat, x = .int (t : Int) ∧ t ≤ 4 := by
        simp only [List.mem_cons, List.not_mem_nil, or_false] at hx
        rcases hx with rfl | rfl | rfl | rfl | rfl | rfl | rfl <;> first | exact ⟨0, rfl, by omega⟩ | exact ⟨1, rfl, by omega⟩ | exact ⟨2, rfl, by omega⟩ | exact ⟨3, rfl, by omega⟩
      simp [-dForL, S.set, atI_nat, gi, gj]
      refine table_ok hf wi t4 (by omega) (by omega) fun a ca la ta a1 a2 => ?_
      try simp [-dForL, S.set, atI_nat, gi, gj]
      refine table_ok hf wj t4 (by omega) (by omega) fun b cb lb tb b1 b2 => ?_
      try simp [-dForL, S.set, atI_nat, gi, gj]
      refine ⟨by omega, hK _ ⟨ts ++ [.tup [.int p.1, .int p.2, .tup a, .tup b]], _, _, _, _, cb, rfl, by simp; omega, fun y hy => ?_, by omega, by omega⟩⟩
      rcases List.mem_append.mp hy with hy | hy
      · exact g2 y hy
      · simp at hy; subst hy; exact tie a b ta tb (by omega)
  · simp [h1]
    exact fin [] _ (by simp) (by simp) (by omega) (by omega)
end K74
namespace K74
open PySem PySem.Spec PyProof.Rows L2 DL
open K74h (top ini)
def Λ1 (gm : Gm) : DFn := fun env c R RX => env.length = 2 ∧ (dCall (Ψ_is_web_map gm) RX (aCons (dVar 0) (aCons (dC .non) (aCons (dVar 1) aNil)))) ⟨env.map .d, c⟩ fun d s => R d s.c
def Λ2 (gm : Gm) : DFn := fun env c R RX => env.length = 3 ∧ (dCall (Ψ_is_web_map gm) RX (aCons (dVar 2) (aCons (dVar 0) (aCons (dVar 1) aNil)))) ⟨env.map .d, c⟩ fun d s => R d s.c
def Λ3 (gm : Gm) : DFn := fun env c R RX => env.length = 2 ∧ (dCall (Ψ_is_cover gm) RX (aCons (dVar 0) (aCons (dC .non) (aCons (dVar 1) aNil)))) ⟨env.map .d, c⟩ fun d s => R d s.c
def Λ4 (gm : Gm) : DFn := fun env c R RX => env.length = 3 ∧ (dCall (Ψ_is_cover gm) RX (aCons (dVar 2) (aCons (dVar 0) (aCons (dVar 1) aNil)))) ⟨env.map .d, c⟩ fun d s => R d s.c
def Λ5 (gm : Gm) : DFn := fun env c R RX => env.length = 2 ∧ (dCall (Ψ_is_cover gm) RX (aCons (dVar 1) (aCons (dVar 1) (aCons (dVar 0) aNil)))) ⟨env.map .d, c⟩ fun d s => R d s.c
def Λ6 (gm : Gm) : DFn := fun env c R RX => env.length = 2 ∧ (dCall (Ψ_behind_web_map gm) RX (aCons (dVar 0) (aCons (dC .non) (aCons (dC .non) (aCons (dVar 1) (aCons (dVar 1) aNil)))))) ⟨env.map .d, c⟩ fun d s => R d s.c
def Λ7 (gm : Gm) : DFn := fun env c R RX => env.length = 3 ∧ (dCall (Ψ_behind_web_map gm) RX (aCons (dVar 2) (aCons (dVar 0) (aCons (dC .non) (aCons (dVar 1) (aCons (dVar 1) aNil)))))) ⟨env.map .d, c⟩ fun d s => R d s.c
def Λ8 (gm : Gm) : DFn := fun env c R RX => env.length = 3 ∧ (dCall (Ψ_behind_web_map gm) RX (aCons (dVar 2) (aCons (dVar 2) (aCons (dVar 0) (aCons (dVar 1) (aCons (dVar 1) aNil)))))) ⟨env.map .d, c⟩ fun d s => R d s.c
def Λ9 (gm : Gm) : DFn := fun env c R RX => env.length = 2 ∧ (dCall (Ψ_behind_web_map gm) RX (aCons (dVar 1) (aCons (dVar 1) (aCons (dVar 1) (aCons (dVar 0) (aCons (dC .non) aNil)))))) ⟨env.map .d, c⟩ fun d s => R d s.c
def Λ10 (gm : Gm) : DFn := fun env c R RX => env.length = 3 ∧ (dCall (Ψ_behind_web_map gm) RX (aCons (dVar 2) (aCons (dVar 2) (aCons (dVar 2) (aCons (dVar 1) (aCons (dVar 0) aNil)))))) ⟨env.map .d, c⟩ fun d s => R d s.c
def Λ11 (gm : Gm) : DFn := fun env c R RX => env.length = 1 ∧ (dCall (Ψ_web_of gm) RX (aCons (dVar 0) aNil)) ⟨env.map .d, c⟩ fun d s => R d s.c
def Ψ_law (gm : Gm) (cells : List (Str × Addr)) (d1 : Clo.CloD) (d2 : Clo.CloD) (d3 : Clo.CloD) (d4 : Clo.CloD) (d5 : Clo.CloD) (d6 : Clo.CloD) (d7 : Clo.CloD) (d8 : Clo.CloD) (d9 : Clo.CloD) (d10 : Clo.CloD) (d11 : Clo.CloD) (RX : DX → Int → Prop) : DS := dSeq (dIfS ((tOrD (tNotD (tBool (dCB cAll (aCons (dFz (dLc [2] (dRng (aCons (dC (.int 3)) aNil)) (fun d s R => R (s.set 2 (.d d))) dYes (dCallP 1 (Ψ__law_case gm) (fun _ _ => False) aNil))) aNil)))) (tNotD (tBool (dCallP 1 (Ψ__law_copies_hold gm) (fun _ _ => False) aNil))))) (dRet (dC (.bl false))) (dNext)) (dSeq (dSet 3 (dCallP 1 (Ψ__law_field gm) (fun _ _ => False) aNil)) (dSeq (dAsg (dCallP 1 (Ψ__law_rooms gm) (fun _ _ => False) (aCons (dVar 3) (aCons (dC (.int 5)) (aCons (dC (.int 6)) (aCons (dC (.int 5)) aNil))))) (gTp 2 (gsC (fun d s R => R (s.set 4 (.d d))) (gsC (fun d s R => R (s.set 5 (.d d))) gsN)))) (dSeq (dIfS (tCm oNe (dCB cRepr (aCons (dCall (Ψ_web_of gm) (fun _ _ => False) (aCons (dCall (Ψ_Rooms gm) (fun _ _ => False) (aCons (dVar 3) (aCons (dVar 4) (aCons (dVar 5) aNil)))) aNil)) aNil)) (dCB cRepr (aCons (dCall (Ψ__law_web_by gm) (fun _ _ => False) (aCons (dVar 4) (aCons (dVar 5) aNil))) aNil))) (dRet (dC (.bl false))) (dNext)) (dSeq (dSet 6 (dCallP 1 (Ψ__law_pick gm) (fun _ _ => False) (aCons (dFz (lLst (aCons (dC .non) (aCons (dC (.int 5)) (aCons (dTup (aCons (dC (.int 0)) (aCons (dTup aNil) aNil))) (aCons (dTup (aCons (dC (.int 9)) (aCons (dTup aNil) aNil))) (aCons (dTup (aCons (dC (.int 2)) (aCons (dTup (aCons (dTup (aCons (dC (.int 0)) (aCons (dC (.int 0)) aNil))) aNil)) aNil))) (aCons (dTup (aCons (dC (.int 2)) (aCons (dOp oMulX (dTup (aCons (dTup (aCons (dC (.int 0)) (aCons (dC (.int 1)) aNil))) aNil)) (dC (.int 13))) aNil))) (aCons (dTup (aCons (dC (.int 2)) aNil)) (aCons (dTup (aCons (dC (.bl true)) (aCons (dTup aNil) aNil))) (aCons (dTup (aCons (dC (.int 2)) (aCons (dC .non) aNil))) aNil))))))))))) aNil))) (dSeq (dAsg (dTup (aCons (dCallP 1 (Ψ__law_pick gm) (fun _ _ => False) (aCons (dFz (lLst (aCons (dC .non) (aCons (dC (.int 5)) (aCons (dTup aNil) (aCons (dTup (aCons (dTup (aCons (dC (.int 0)) aNil)) (aCons (dTup aNil) aNil))) (aCons (dTup (aCons (dTup (aCons (dC (.int 0)) (aCons (dC (.int 1)) aNil))) (aCons (dTup aNil) aNil))) (aCons (dTup (aCons (dTup (aCons (dC (.int 0)) (aCons (dC (.int 1)) aNil))) (aCons (dTup (aCons (dTup (aCons (dC (.int 0)) (aCons (dC (.bl true)) aNil))) aNil)) aNil))) (aCons (dTup (aCons (dTup (aCons (dC (.int 0)) (aCons (dC (.int 1)) aNil))) (aCons (dTup (aCons (dTup (aCons (dC (.int 1)) (aCons (dC (.bl false)) aNil))) aNil)) aNil))) aNil))))))))) aNil)) (aCons (dTup (aCons (dC (.int 2)) (aCons (dTup (aCons (dTup (aCons (dC (.int 0)) (aCons (dC (.int 1)) aNil))) aNil)) aNil))) aNil))) (gTp 2 (gsC (fun d s R => R (s.set 7 (.d d))) (gsC (fun d s R => R (s.set 8 (.d d))) gsN)))) (dSeq (dSet 9 (dTup (aCons (dTup (aCons (dC (.int 0)) (aCons (dC (.int 1)) aNil))) (aCons (dTup (aCons (dTup (aCons (dC (.int 0)) (aCons (dC (.bl false)) aNil))) aNil)) aNil)))) (dSeq (dOwn 10 (lLst (aCons (dTup (aCons (dC (.clo d1)) (aCons (dTup (aCons (dC (.str "web")) (aCons (dC (.str "above")) (aCons (dVar 6) aNil)))) aNil))) aNil))) (dSeq (dAppend 10 (dTup (aCons (dC (.clo d2)) (aCons (dTup (aCons (dC (.str "web")) (aCons (dC (.str "below")) (aCons (dVar 6) aNil)))) aNil)))) (dSeq (dAppend 10 (dTup (aCons (dC (.clo d3)) (aCons (dTup (aCons (dC (.str "web")) (aCons (dC (.str "above")) (aCons (dVar 6) aNil)))) aNil)))) (dSeq (dAppend 10 (dTup (aCons (dC (.clo d4)) (aCons (dTup (aCons (dC (.str "web")) (aCons (dC (.str "below")) (aCons (dVar 6) aNil)))) aNil)))) (dSeq (dAppend 10 (dTup (aCons (dC (.clo d5)) (aCons (dTup (aCons (dC (.str "row")) (aCons (dVar 7) aNil))) aNil)))) (dSeq (dAppend 10 (dTup (aCons (dC (.clo d6)) (aCons (dTup (aCons (dC (.str "web")) (aCons (dC (.str "above")) (aCons (dVar 6) aNil)))) aNil)))) (dSeq (dAppend 10 (dTup (aCons (dC (.clo d7)) (aCons (dTup (aCons (dC (.str "web")) (aCons (dC (.str "middle")) (aCons (dVar 6) aNil)))) aNil)))) (dSeq (dAppend 10 (dTup (aCons (dC (.clo d8)) (aCons (dTup (aCons (dC (.str "web")) (aCons (dC (.str "below")) (aCons (dVar 6) aNil)))) aNil)))) (dSeq (dAppend 10 (dTup (aCons (dC (.clo d9)) (aCons (dTup (aCons (dC (.str "row")) (aCons (dVar 7) aNil))) aNil)))) (dSeq (dAppend 10 (dTup (aCons (dC (.clo d10)) (aCons (dTup (aCons (dC (.str "row")) (aCons (dVar 7) aNil))) aNil)))) (dSeq (dAppend 10 (dTup (aCons (dC (.clo d11)) (aCons (dTup (aCons (dC (.str "unlike")) (aCons (dC (.str "rooms")) aNil))) aNil)))) (dFrz 10 (dRet (dCallS cells ["bad", "odd", "units", "web"] ["script", "pen", "lap", "field", "widths", "ties", "bad", "odd", "web", "units", "tries"] (Ψ__law_are_due gm) (fun _ _ => False) (aCons (dVar 10) aNil)))))))))))))))))))))
/-- the law, behind its pen -/
def LawPure (gm : Gm) : Prop := ∀ (cells : List (Str × Addr)) (d1 : Clo.CloD) (d2 : Clo.CloD) (d3 : Clo.CloD) (d4 : Clo.CloD) (d5 : Clo.CloD) (d6 : Clo.CloD) (d7 : Clo.CloD) (d8 : Clo.CloD) (d9 : Clo.CloD) (d10 : Clo.CloD) (d11 : Clo.CloD) (s1 : ∀ (sl : List DL.Slot) (env : List D), [slotOf ["script", "pen", "lap", "field", "widths", "ties", "bad", "odd", "web", "units", "tries"] sl "bad", slotOf ["script", "pen", "lap", "field", "widths", "ties", "bad", "odd", "web", "units", "tries"] sl "odd"] = env.map some → flats env = true → Seal cells ["bad", "odd", "units", "web"] ["script", "pen", "lap", "field", "widths", "ties", "bad", "odd", "web", "units", "tries"] sl (.clo d1) (.sc d1 env)) (g1 : gm.clo d1 (Λ1 gm)) (s2 : ∀ (sl : List DL.Slot) (env : List D), [slotOf ["script", "pen", "lap", "field", "widths", "ties", "bad", "odd", "web", "units", "tries"] sl "bad", slotOf ["script", "pen", "lap", "field", "widths", "ties", "bad", "odd", "web", "units", "tries"] sl "odd", slotOf ["script", "pen", "lap", "field", "widths", "ties", "bad", "odd", "web", "units", "tries"] sl "web"] = env.map some → flats env = true → Seal cells ["bad", "odd", "units", "web"] ["script", "pen", "lap", "field", "widths", "ties", "bad", "odd", "web", "units", "tries"] sl (.clo d2) (.sc d2 env)) (g2 : gm.clo d2 (Λ2 gm)) (s3 : ∀ (sl : List DL.Slot) (env : List D), [slotOf ["script", "pen", "lap", "field", "widths", "ties", "bad", "odd", "web", "units", "tries"] sl "bad", slotOf ["script", "pen", "lap", "field", "widths", "ties", "bad", "odd", "web", "units", "tries"] sl "odd"] = env.map some → flats env = true → Seal cells ["bad", "odd", "units", "web"] ["script", "pen", "lap", "field", "widths", "ties", "bad", "odd", "web", "units", "tries"] sl (.clo d3) (.sc d3 env)) (g3 : gm.clo d3 (Λ3 gm)) (s4 : ∀ (sl : List DL.Slot) (env : List D), [slotOf ["script", "pen", "lap", "field", "widths", "ties", "bad", "odd", "web", "units", "tries"] sl "bad", slotOf ["script", "pen", "lap", "field", "widths", "ties", "bad", "odd", "web", "units", "tries"] sl "odd", slotOf ["script", "pen", "lap", "field", "widths", "ties", "bad", "odd", "web", "units", "tries"] sl "web"] = env.map some → flats env = true → Seal cells ["bad", "odd", "units", "web"] ["script", "pen", "lap", "field", "widths", "ties", "bad", "odd", "web", "units", "tries"] sl (.clo d4) (.sc d4 env)) (g4 : gm.clo d4 (Λ4 gm)) (s5 : ∀ (sl : List DL.Slot) (env : List D), [slotOf ["script", "pen", "lap", "field", "widths", "ties", "bad", "odd", "web", "units", "tries"] sl "odd", slotOf ["script", "pen", "lap", "field", "widths", "ties", "bad", "odd", "web", "units", "tries"] sl "web"] = env.map some → flats env = true → Seal cells ["bad", "odd", "units", "web"] ["script", "pen", "lap", "field", "widths", "ties", "bad", "odd", "web", "units", "tries"] sl (.clo d5) (.sc d5 env)) (g5 : gm.clo d5 (Λ5 gm)) (s6 : ∀ (sl : List DL.Slot) (env : List D), [slotOf ["script", "pen", "lap", "field", "widths", "ties", "bad", "odd", "web", "units", "tries"] sl "bad", slotOf ["script", "pen", "lap", "field", "widths", "ties", "bad", "odd", "web", "units", "tries"] sl "odd"] = env.map some → flats env = true → Seal cells ["bad", "odd", "units", "web"] ["script", "pen", "lap", "field", "widths", "ties", "bad", "odd", "web", "units", "tries"] sl (.clo d6) (.sc d6 env)) (g6 : gm.clo d6 (Λ6 gm)) (s7 : ∀ (sl : List DL.Slot) (env : List D), [slotOf ["script", "pen", "lap", "field", "widths", "ties", "bad", "odd", "web", "units", "tries"] sl "bad", slotOf ["script", "pen", "lap", "field", "widths", "ties", "bad", "odd", "web", "units", "tries"] sl "odd", slotOf ["script", "pen", "lap", "field", "widths", "ties", "bad", "odd", "web", "units", "tries"] sl "web"] = env.map some → flats env = true → Seal cells ["bad", "odd", "units", "web"] ["script", "pen", "lap", "field", "widths", "ties", "bad", "odd", "web", "units", "tries"] sl (.clo d7) (.sc d7 env)) (g7 : gm.clo d7 (Λ7 gm)) (s8 : ∀ (sl : List DL.Slot) (env : List D), [slotOf ["script", "pen", "lap", "field", "widths", "ties", "bad", "odd", "web", "units", "tries"] sl "bad", slotOf ["script", "pen", "lap", "field", "widths", "ties", "bad", "odd", "web", "units", "tries"] sl "odd", slotOf ["script", "pen", "lap", "field", "widths", "ties", "bad", "odd", "web", "units", "tries"] sl "web"] = env.map some → flats env = true → Seal cells ["bad", "odd", "units", "web"] ["script", "pen", "lap", "field", "widths", "ties", "bad", "odd", "web", "units", "tries"] sl (.clo d8) (.sc d8 env)) (g8 : gm.clo d8 (Λ8 gm)) (s9 : ∀ (sl : List DL.Slot) (env : List D), [slotOf ["script", "pen", "lap", "field", "widths", "ties", "bad", "odd", "web", "units", "tries"] sl "odd", slotOf ["script", "pen", "lap", "field", "widths", "ties", "bad", "odd", "web", "units", "tries"] sl "web"] = env.map some → flats env = true → Seal cells ["bad", "odd", "units", "web"] ["script", "pen", "lap", "field", "widths", "ties", "bad", "odd", "web", "units", "tries"] sl (.clo d9) (.sc d9 env)) (g9 : gm.clo d9 (Λ9 gm)) (s10 : ∀ (sl : List DL.Slot) (env : List D), [slotOf ["script", "pen", "lap", "field", "widths", "ties", "bad", "odd", "web", "units", "tries"] sl "odd", slotOf ["script", "pen", "lap", "field", "widths", "ties", "bad", "odd", "web", "units", "tries"] sl "units", slotOf ["script", "pen", "lap", "field", "widths", "ties", "bad", "odd", "web", "units", "tries"] sl "web"] = env.map some → flats env = true → Seal cells ["bad", "odd", "units", "web"] ["script", "pen", "lap", "field", "widths", "ties", "bad", "odd", "web", "units", "tries"] sl (.clo d10) (.sc d10 env)) (g10 : gm.clo d10 (Λ10 gm)) (s11 : ∀ (sl : List DL.Slot) (env : List D), [slotOf ["script", "pen", "lap", "field", "widths", "ties", "bad", "odd", "web", "units", "tries"] sl "odd"] = env.map some → flats env = true → Seal cells ["bad", "odd", "units", "web"] ["script", "pen", "lap", "field", "widths", "ties", "bad", "odd", "web", "units", "tries"] sl (.clo d11) (.sc d11 env)) (g11 : gm.clo d11 (Λ11 gm)) (R : D → Prop), R (.bl true) → Ψ_law gm cells d1 d2 d3 d4 d5 d6 d7 d8 d9 d10 d11 (fun _ _ => False) ⟨.no :: .pen :: List.replicate 9 .no, 0⟩ { nx := fun _ => R .non, rt := fun d _ => R d }
theorem pss_any {X : Cx} {st : List Stmt} : PSs X st (fun D σ H => ∃ t, PSs X st t ∧ t D σ H) := ⟨fun pins s σ H D I h => by
  obtain ⟨t, p, h⟩ := h
  exact p.run pins s σ H D I h⟩
def spLaw (K : PySem.W.Frag) (T : List (Addr × Str)) : Sp := fun vs H Q _ => ∃ (a : Addr) (ns : List Int), vs = [.ref a] ∧ SqL K H a (ns.map V.int) ∧ ns.length ≤ 63 ∧ TabG T (fun _ => none) H ∧ ∀ H', Q (.bl true) H'
section
variable {P : Program} {w : World} {K : PySem.W.Frag} {mg : Str → Option Value} {base : Heap} {f : Addr} {fd : FuncData} {T : List (Addr × Str)} {gm : Gm}
theorem sc_law : FnScope ["script", "pen", "lap", "field", "widths", "ties", "bad", "odd", "web", "units", "tries"] ["script"] (defScope (top 80)) := ⟨rfl, rfl, rfl, by decide +kernel, rfl, by decide +kernel, by decide +kernel⟩
theorem ok_law (B : Bs mg) (Sy : Sys K) (Fd : FnP K "law" (top 80) f fd) (h_pen : ∃ g gd, FnP K "_law_pen" sPen g gd ∧ mg "_law_pen" = some (.ref g)) (h_Rooms : Ok_Rooms P w K mg base T gm) (h__law_copies_hold : Ok__law_copies_hold P w K mg base T gm) (h__law_case : Ok__law_case P w K mg base T gm) (h__law_field : Ok__law_field P w K mg base T gm) (h__law_rooms : Ok__law_rooms P w K mg base T gm) (h_web_of : Ok_web_of P w K mg base T gm) (h__law_web_by : Ok__law_web_by P w K mg base T gm) (h__law_pick : Ok__law_pick P w K mg base T gm) (h_is_web_map : Ok_is_web_map P w K mg base T gm) (h_is_cover : Ok_is_cover P w K mg base T gm) (h_behind_web_map : Ok_behind_web_map P w K mg base T gm) (h__law_are_due : Ok__law_are_due P w K mg base T gm) (hl : ∃ c Pt, fd.code = .ref c ∧ LamX.TabB base mg c Pt ∧ (Pt, ("law.<locals>.<lambda>" : Str)) ∈ T ∧ ∀ p ∈ T, p.1 = Pt → p.2 = ("law.<locals>.<lambda>" : Str)) (hclo : ∀ d Ψ, DL.CloD P w K mg base 39 d Ψ → gm.clo d Ψ) (hpure : LawPure gm) : Gd.FnG P w K mg base (L2.CX P w) 45 f fd ["script"] (spLaw K T) := by
  obtain ⟨gP, gdP, FP, GP⟩ := h_pen
  obtain ⟨f_Rooms, fd_Rooms, O_Rooms, F_Rooms, M_Rooms, G_Rooms⟩ := h_Rooms
  obtain ⟨f__law_copies_hold, fd__law_copies_hold, O__law_copies_hold, F__law_copies_hold, G__law_copies_hold⟩ := h__law_copies_hold
  obtain ⟨f__law_case, fd__law_case, O__law_case, F__law_case, G__law_case⟩ := h__law_case
  obtain ⟨f__law_field, fd__law_field, O__law_field, F__law_field, G__law_field⟩ := h__law_field
  obtain ⟨f__law_rooms, fd__law_rooms, O__law_rooms, F__law_rooms, G__law_rooms⟩ := h__law_rooms
  obtain ⟨f_web_of, fd_web_of, O_web_of, F_web_of, G_web_of⟩ := h_web_of
  obtain ⟨f__law_web_by, fd__law_web_by, O__law_web_by, F__law_web_by, G__law_web_by⟩ := h__law_web_by
  obtain ⟨f__law_pick, fd__law_pick, O__law_pick, F__law_pick, G__law_pick⟩ := h__law_pick
  obtain ⟨f_is_web_map, fd_is_web_map, O_is_web_map, F_is_web_map, G_is_web_map⟩ := h_is_web_map
  obtain ⟨f_is_cover, fd_is_cover, O_is_cover, F_is_cover, G_is_cover⟩ := h_is_cover
  obtain ⟨f_behind_web_map, fd_behind_web_map, O_behind_web_map, F_behind_web_map, G_behind_web_map⟩ := h_behind_web_map
  obtain ⟨f__law_are_due, fd__law_are_due, O__law_are_due, F__law_are_due, G__law_are_due⟩ := h__law_are_due
  obtain ⟨c0, Pt, hcode, TB, hmT0, hu0⟩ := hl
  have S := sc_law
  refine fnG_ofC Fd S (fun vs H Q E h => ?_) (fun A outer s H vs Q E hr hG h => ?_)
  · obtain ⟨a, ns, rfl, _⟩ := h
    rfl
  obtain ⟨a, ns, rfl, ha, hn, hT, hq⟩ := h
  refine ⟨_, C8.pss_cut (ps_set (i := 1) S.nd rfl (by first | exact .inl rfl | exact .inr rfl) (pe_call (ok_pen B FP) (hr.mono (by decide)) (by rfl) GP FP.kp (FP.bindsN fun _ _ _ _ _ _ us hl => match us, hl with | [_], _ => rfl) .nil ((bodyF P w K mg base 44 ["script", "pen", "lap", "field", "widths", "ties", "bad", "odd", "web", "units", "tries"] "law" (defScope (top 80)) f fd.code A outer s H E hr hG).hx ()) (pa_cons (pv 0) pa_nil))) pss_any, ?_⟩
  refine ⟨fun σ H1 => ∃ p L, σ = (L2.start ["script", "pen", "lap", "field", "widths", "ties", "bad", "odd", "web", "units", "tries"] [.ref a]).set 1 (some (.ref p)) ∧ PenAt H1 p L 0 ∧ Ex H H1, ?_, ?_⟩
  · exact ⟨_, rfl, a, ns, rfl, ha, hn, fun p L H' _ hx hp => ⟨p, L, rfl, hp, hx⟩⟩
  rintro σ H1 ⟨p, L, rfl, hp, hx⟩
  have tab0 : TabOk ⟨some (p, L), fun _ => none, H1, T⟩ (fun _ => none) H1 := ⟨tabs_keep hT (fun b ps e => hx _ _ e) (Ex.rf _), fun _ _ => rfl⟩
  obtain ⟨M, rfl⟩ : ∃ M : Cm, M = ⟨some (p, L), fun _ => none, H1, T⟩ := ⟨_, rfl⟩
  have ht : (⟨some (p, L), fun _ => none, H1, T⟩ : Cm).tabs = T := rfl
  have ni : Nice ⟨some (p, L), fun _ => none, H1, T⟩ := ⟨fun b o e => (by cases e), fun _ _ _ => rfl, fun _ _ => rfl⟩
  have hmT := hmT0
  have hu := hu0
  rw [← ht] at hmT hu
  have key : ∃ ψ, SDs ⟨some (p, L), fun _ => none, H1, T⟩ (bodyF P w K mg base 44 ["script", "pen", "lap", "field", "widths", "ties", "bad", "odd", "web", "units", "tries"] "law" (defScope (top 80)) f fd.code A outer s H E hr hG) ((defBody (top 80)).drop 1) ψ ∧ ψ ⟨.no :: .pen :: List.replicate 9 .no, 0⟩ { nx := fun _ => ∀ H', Q .non H', rt := fun d _ => ∀ v G' H', Vd G' v d → Q v H' } := by
    refine ⟨Ψ_law gm _ _ _ _ _ _ _ _ _ _ _ _ (fun _ _ => False), s_cons (s_if (t_w (w_or (t_not (t_val (e_all B.all (a_cons (e_fz (l_lc (own := [("lap", 2)]) (fun _ => blkOk_by (own := [("lap", 2)]) (N := ["script", "pen", "lap", "field", "widths", "ties", "bad", "odd", "web", "units", "tries"]) (sc := defScope (top 80)) (by decide +kernel)) (fun _ => S.nd) (id_rng (a_cons (e_int) a_nil) (fun _ => rfl) B.range) (g_name 2 (fun _ => pg_name (i := 2) S.nd rfl (by first | exact .inl rfl | exact .inr rfl))) ts_nil (e_callP (RX := (fun _ _ => False)) 1 O__law_case (by decide) G__law_case F__law_case.kp (F__law_case.bindsN fun _ _ _ _ _ _ us hl => match us, hl with | [_], _ => rfl) (fun _ _ _ _ _ _ z => z.elim) ni ht (fun _ => pv 1) a_nil (fun _ => rfl)))) a_nil) (fun _ => rfl)))) (w_or1 (t_not (t_val (e_callP (RX := (fun _ _ => False)) 1 O__law_copies_hold (by decide) G__law_copies_hold F__law_copies_hold.kp (F__law_copies_hold.bindsN fun _ _ _ _ _ _ us hl => match us, hl with | [_], _ => rfl) (fun _ _ _ _ _ _ z => z.elim) ni ht (fun _ => pv 1) a_nil (fun _ => rfl))))))) (s_one (s_ret (e_bl))) (s_nil)) (s_cons (s_setR (fun t h j => ps_set (i := 3) S.nd rfl (by first | exact .inl rfl | exact .inr rfl) (h j)) (e_callP (RX := (fun _ _ => False)) 1 O__law_field (by decide) G__law_field F__law_field.kp (F__law_field.bindsN fun _ _ _ _ _ _ us hl => match us, hl with | [_], _ => rfl) (fun _ _ _ _ _ _ z => z.elim) ni ht (fun _ => pv 1) a_nil (fun _ => rfl))) (s_cons (s_asg (e_callP (RX := (fun _ _ => False)) 1 O__law_rooms (by decide) G__law_rooms F__law_rooms.kp (F__law_rooms.bindsN fun _ _ _ _ _ _ us hl => match us, hl with | [_, _, _, _, _], _ => rfl) (fun _ _ _ _ _ _ z => z.elim) ni ht (fun _ => pv 1) (a_cons (e_var 3 (fun _ => pv 3)) (a_cons (e_int) (a_cons (e_int) (a_cons (e_int) a_nil)))) (fun _ => rfl)) (g_tup 2 (gs_cons (g_name 4 (fun _ => pg_name (i := 4) S.nd rfl (by first | exact .inl rfl | exact .inr rfl))) (gs_cons (g_name 5 (fun _ => pg_name (i := 5) S.nd rfl (by first | exact .inl rfl | exact .inr rfl))) gs_nil)))) (s_cons (s_if (tc c_ne (e_repr Sy (by decide) B.repr (a_cons (e_call (RX := (fun _ _ => False)) O_web_of (by decide) G_web_of F_web_of.kp (F_web_of.bindsN fun _ _ _ _ _ _ us hl => match us, hl with | [_], _ => rfl) (fun _ _ _ _ _ _ z => z.elim) ni (a_cons (e_make (RX := (fun _ _ => False)) O_Rooms (by decide) G_Rooms M_Rooms (F_Rooms.bindsN fun _ _ _ _ _ _ us hl => match us, hl with | [_, _, _, _], _ => rfl) (fun _ _ _ _ _ _ z => z.elim) ni (a_cons (e_var 3 (fun _ => pv 3)) (a_cons (e_var 4 (fun _ => pv 4)) (a_cons (e_var 5 (fun _ => pv 5)) a_nil))) (fun _ => rfl)) a_nil) (fun _ => rfl)) a_nil) (fun _ => rfl)) (e_repr Sy (by decide) B.repr (a_cons (e_call (RX := (fun _ _ => False)) O__law_web_by (by decide) G__law_web_by F__law_web_by.kp (F__law_web_by.bindsN fun _ _ _ _ _ _ us hl => match us, hl with | [_, _], _ => rfl) (fun _ _ _ _ _ _ z => z.elim) ni (a_cons (e_var 4 (fun _ => pv 4)) (a_cons (e_var 5 (fun _ => pv 5)) a_nil)) (fun _ => rfl)) a_nil) (fun _ => rfl)) (nomark _)) (s_one (s_ret (e_bl))) (s_nil)) (s_cons (s_setR (fun t h j => ps_set (i := 6) S.nd rfl (by first | exact .inl rfl | exact .inr rfl) (h j)) (e_callP (RX := (fun _ _ => False)) 1 O__law_pick (by decide) G__law_pick F__law_pick.kp (F__law_pick.bindsN fun _ _ _ _ _ _ us hl => match us, hl with | [_, _], _ => rfl) (fun _ _ _ _ _ _ z => z.elim) ni ht (fun _ => pv 1) (a_cons (e_fz (l_lst (a_cons (e_non) (a_cons (e_int) (a_cons (e_tup (a_cons (e_int) (a_cons (e_tup a_nil) a_nil))) (a_cons (e_tup (a_cons (e_int) (a_cons (e_tup a_nil) a_nil))) (a_cons (e_tup (a_cons (e_int) (a_cons (e_tup (a_cons (e_tup (a_cons (e_int) (a_cons (e_int) a_nil))) a_nil)) a_nil))) (a_cons (e_tup (a_cons (e_int) (a_cons (e_mulX (e_tup (a_cons (e_tup (a_cons (e_int) (a_cons (e_int) a_nil))) a_nil)) (e_int)) a_nil))) (a_cons (e_tup (a_cons (e_int) a_nil)) (a_cons (e_tup (a_cons (e_bl) (a_cons (e_tup a_nil) a_nil))) (a_cons (e_tup (a_cons (e_int) (a_cons (e_non) a_nil))) a_nil))))))))))) a_nil) (fun _ => rfl))) (s_cons (s_asg (e_tup (a_cons (e_callP (RX := (fun _ _ => False)) 1 O__law_pick (by decide) G__law_pick F__law_pick.kp (F__law_pick.bindsN fun _ _ _ _ _ _ us hl => match us, hl with | [_, _], _ => rfl) (fun _ _ _ _ _ _ z => z.elim) ni ht (fun _ => pv 1) (a_cons (e_fz (l_lst (a_cons (e_non) (a_cons (e_int) (a_cons (e_tup a_nil) (a_cons (e_tup (a_cons (e_tup (a_cons (e_int) a_nil)) (a_cons (e_tup a_nil) a_nil))) (a_cons (e_tup (a_cons (e_tup (a_cons (e_int) (a_cons (e_int) a_nil))) (a_cons (e_tup a_nil) a_nil))) (a_cons (e_tup (a_cons (e_tup (a_cons (e_int) (a_cons (e_int) a_nil))) (a_cons (e_tup (a_cons (e_tup (a_cons (e_int) (a_cons (e_bl) a_nil))) a_nil)) a_nil))) (a_cons (e_tup (a_cons (e_tup (a_cons (e_int) (a_cons (e_int) a_nil))) (a_cons (e_tup (a_cons (e_tup (a_cons (e_int) (a_cons (e_bl) a_nil))) a_nil)) a_nil))) a_nil))))))))) a_nil) (fun _ => rfl)) (a_cons (e_tup (a_cons (e_int) (a_cons (e_tup (a_cons (e_tup (a_cons (e_int) (a_cons (e_int) a_nil))) a_nil)) a_nil))) a_nil))) (g_tup 2 (gs_cons (g_name 7 (fun _ => pg_name (i := 7) S.nd rfl (by first | exact .inl rfl | exact .inr rfl))) (gs_cons (g_name 8 (fun _ => pg_name (i := 8) S.nd rfl (by first | exact .inl rfl | exact .inr rfl))) gs_nil)))) (s_cons (s_setR (fun t h j => ps_set (i := 9) S.nd rfl (by first | exact .inl rfl | exact .inr rfl) (h j)) (e_tup (a_cons (e_tup (a_cons (e_int) (a_cons (e_int) a_nil))) (a_cons (e_tup (a_cons (e_tup (a_cons (e_int) (a_cons (e_bl) a_nil))) a_nil)) a_nil)))) (s_cons (s_ownR (fun t h j => ps_set (i := 10) S.nd rfl (by first | exact .inl rfl | exact .inr rfl) (h j)) (l_lst (a_cons (e_tup (a_cons (e_lam (q := "law.<locals>.<lambda>") TB hmT hu (fun _ => hcode) (fun _ => rfl) (fun _ => rfl) (cap_has (fsc := (defScope (top 80))) rfl)) (a_cons (e_tup (a_cons (e_str) (a_cons (e_str) (a_cons (e_var 6 (fun _ => pv 6)) a_nil)))) a_nil))) a_nil))) (s_cons (s_append 10 (fun _ => pv 10) (e_tup (a_cons (e_lam (q := "law.<locals>.<lambda>") TB hmT hu (fun _ => hcode) (fun _ => rfl) (fun _ => rfl) (cap_has (fsc := (defScope (top 80))) rfl)) (a_cons (e_tup (a_cons (e_str) (a_cons (e_str) (a_cons (e_var 6 (fun _ => pv 6)) a_nil)))) a_nil)))) (s_cons (s_append 10 (fun _ => pv 10) (e_tup (a_cons (e_lam (q := "law.<locals>.<lambda>") TB hmT hu (fun _ => hcode) (fun _ => rfl) (fun _ => rfl) (cap_has (fsc := (defScope (top 80))) rfl)) (a_cons (e_tup (a_cons (e_str) (a_cons (e_str) (a_cons (e_var 6 (fun _ => pv 6)) a_nil)))) a_nil)))) (s_cons (s_append 10 (fun _ => pv 10) (e_tup (a_cons (e_lam (q := "law.<locals>.<lambda>") TB hmT hu (fun _ => hcode) (fun _ => rfl) (fun _ => rfl) (cap_has (fsc := (defScope (top 80))) rfl)) (a_cons (e_tup (a_cons (e_str) (a_cons (e_str) (a_cons (e_var 6 (fun _ => pv 6)) a_nil)))) a_nil)))) (s_cons (s_append 10 (fun _ => pv 10) (e_tup (a_cons (e_lam (q := "law.<locals>.<lambda>") TB hmT hu (fun _ => hcode) (fun _ => rfl) (fun _ => rfl) (cap_has (fsc := (defScope (top 80))) rfl)) (a_cons (e_tup (a_cons (e_str) (a_cons (e_var 7 (fun _ => pv 7)) a_nil))) a_nil)))) (s_cons (s_append 10 (fun _ => pv 10) (e_tup (a_cons (e_lam (q := "law.<locals>.<lambda>") TB hmT hu (fun _ => hcode) (fun _ => rfl) (fun _ => rfl) (cap_has (fsc := (defScope (top 80))) rfl)) (a_cons (e_tup (a_cons (e_str) (a_cons (e_str) (a_cons (e_var 6 (fun _ => pv 6)) a_nil)))) a_nil)))) (s_cons (s_append 10 (fun _ => pv 10) (e_tup (a_cons (e_lam (q := "law.<locals>.<lambda>") TB hmT hu (fun _ => hcode) (fun _ => rfl) (fun _ => rfl) (cap_has (fsc := (defScope (top 80))) rfl)) (a_cons (e_tup (a_cons (e_str) (a_cons (e_str) (a_cons (e_var 6 (fun _ => pv 6)) a_nil)))) a_nil)))) (s_cons (s_append 10 (fun _ => pv 10) (e_tup (a_cons (e_lam (q := "law.<locals>.<lambda>") TB hmT hu (fun _ => hcode) (fun _ => rfl) (fun _ => rfl) (cap_has (fsc := (defScope (top 80))) rfl)) (a_cons (e_tup (a_cons (e_str) (a_cons (e_str) (a_cons (e_var 6 (fun _ => pv 6)) a_nil)))) a_nil)))) (s_cons (s_append 10 (fun _ => pv 10) (e_tup (a_cons (e_lam (q := "law.<locals>.<lambda>") TB hmT hu (fun _ => hcode) (fun _ => rfl) (fun _ => rfl) (cap_has (fsc := (defScope (top 80))) rfl)) (a_cons (e_tup (a_cons (e_str) (a_cons (e_var 7 (fun _ => pv 7)) a_nil))) a_nil)))) (s_cons (s_append 10 (fun _ => pv 10) (e_tup (a_cons (e_lam (q := "law.<locals>.<lambda>") TB hmT hu (fun _ => hcode) (fun _ => rfl) (fun _ => rfl) (cap_has (fsc := (defScope (top 80))) rfl)) (a_cons (e_tup (a_cons (e_str) (a_cons (e_var 7 (fun _ => pv 7)) a_nil))) a_nil)))) (s_cons (s_append 10 (fun _ => pv 10) (e_tup (a_cons (e_lam (q := "law.<locals>.<lambda>") TB hmT hu (fun _ => hcode) (fun _ => rfl) (fun _ => rfl) (cap_has (fsc := (defScope (top 80))) rfl)) (a_cons (e_tup (a_cons (e_str) (a_cons (e_str) a_nil))) a_nil)))) (s_frz 10 (s_one (s_ret (e_callS (RX := (fun _ _ => False)) (ns := ["bad", "odd", "units", "web"]) (N := ["script", "pen", "lap", "field", "widths", "ties", "bad", "odd", "web", "units", "tries"]) O__law_are_due (by decide) G__law_are_due F__law_are_due.kp (F__law_are_due.bindsN fun _ _ _ _ _ _ us hl => match us, hl with | [_], _ => rfl) (fun _ _ _ _ _ _ z => z.elim) ni (fun _ => rfl) (fun _ => rfl) S.nd (fun _ y hy => of_decide_eq_true (List.all_eq_true.mp (show (["bad", "odd", "units", "web"] : List Str).all (fun y => decide ((defScope (top 80)).names.lookup y = some .cell)) = true from rfl) y hy)) (fun _ => rfl) (fun y hy => cell_has (of_decide_eq_true (List.all_eq_true.mp (show (["bad", "odd", "units", "web"] : List Str).all (fun y => decide ((defScope (top 80)).names.lookup y = some .cell)) = true from rfl) y hy))) (a_cons (e_var 10 (fun _ => pv 10)) a_nil) (fun _ => rfl)))))))))))))))))))))), ?_⟩
    refine hpure _ _ _ _ _ _ _ _ _ _ _ _ ?_ ?_ ?_ ?_ ?_ ?_ ?_ ?_ ?_ ?_ ?_ ?_ ?_ ?_ ?_ ?_ ?_ ?_ ?_ ?_ ?_ ?_ _ fun v G' H' hv => (by cases hv; exact hq H')
    · exact fun sl env he hf => .clo rfl he hf
    · exact hclo _ _ (cloD_of (Ψ := Λ1 gm) (closS_body (fsc := defScope (top 80)) rfl rfl) rfl (fun _ _ _ => rfl) fun A2 outer2 s2 H2 f2 c2 E2 hr2 hG2 M2 RX2 ni2 hE2 => ⟨_, e_call (RX := RX2) O_is_web_map (by decide) G_is_web_map F_is_web_map.kp (F_is_web_map.bindsN fun _ _ _ _ _ _ us hl => match us, hl with | [_, _, _], _ => rfl) hE2 ni2 (a_cons (e_var 0 (fun _ => pv 0)) (a_cons (e_non) (a_cons (e_var 1 (fun _ => pv 1)) a_nil))) (fun _ => rfl), fun env c R h => h.2⟩)
    · exact fun sl env he hf => .clo rfl he hf
    · exact hclo _ _ (cloD_of (Ψ := Λ2 gm) (closS_body (fsc := defScope (top 80)) rfl rfl) rfl (fun _ _ _ => rfl) fun A2 outer2 s2 H2 f2 c2 E2 hr2 hG2 M2 RX2 ni2 hE2 => ⟨_, e_call (RX := RX2) O_is_web_map (by decide) G_is_web_map F_is_web_map.kp (F_is_web_map.bindsN fun _ _ _ _ _ _ us hl => match us, hl with | [_, _, _], _ => rfl) hE2 ni2 (a_cons (e_var 2 (fun _ => pv 2)) (a_cons (e_var 0 (fun _ => pv 0)) (a_cons (e_var 1 (fun _ => pv 1)) a_nil))) (fun _ => rfl), fun env c R h => h.2⟩)
    · exact fun sl env he hf => .clo rfl he hf
    · exact hclo _ _ (cloD_of (Ψ := Λ3 gm) (closS_body (fsc := defScope (top 80)) rfl rfl) rfl (fun _ _ _ => rfl) fun A2 outer2 s2 H2 f2 c2 E2 hr2 hG2 M2 RX2 ni2 hE2 => ⟨_, e_call (RX := RX2) O_is_cover (by decide) G_is_cover F_is_cover.kp (F_is_cover.bindsN fun _ _ _ _ _ _ us hl => match us, hl with | [_, _, _], _ => rfl) hE2 ni2 (a_cons (e_var 0 (fun _ => pv 0)) (a_cons (e_non) (a_cons (e_var 1 (fun _ => pv 1)) a_nil))) (fun _ => rfl), fun env c R h => h.2⟩)
    · exact fun sl env he hf => .clo rfl he hf
    · exact hclo _ _ (cloD_of (Ψ := Λ4 gm) (closS_body (fsc := defScope (top 80)) rfl rfl) rfl (fun _ _ _ => rfl) fun A2 outer2 s2 H2 f2 c2 E2 hr2 hG2 M2 RX2 ni2 hE2 => ⟨_, e_call (RX := RX2) O_is_cover (by decide) G_is_cover F_is_cover.kp (F_is_cover.bindsN fun _ _ _ _ _ _ us hl => match us, hl with | [_, _, _], _ => rfl) hE2 ni2 (a_cons (e_var 2 (fun _ => pv 2)) (a_cons (e_var 0 (fun _ => pv 0)) (a_cons (e_var 1 (fun _ => pv 1)) a_nil))) (fun _ => rfl), fun env c R h => h.2⟩)
    · exact fun sl env he hf => .clo rfl he hf
    · exact hclo _ _ (cloD_of (Ψ := Λ5 gm) (closS_body (fsc := defScope (top 80)) rfl rfl) rfl (fun _ _ _ => rfl) fun A2 outer2 s2 H2 f2 c2 E2 hr2 hG2 M2 RX2 ni2 hE2 => ⟨_, e_call (RX := RX2) O_is_cover (by decide) G_is_cover F_is_cover.kp (F_is_cover.bindsN fun _ _ _ _ _ _ us hl => match us, hl with | [_, _, _], _ => rfl) hE2 ni2 (a_cons (e_var 1 (fun _ => pv 1)) (a_cons (e_var 1 (fun _ => pv 1)) (a_cons (e_var 0 (fun _ => pv 0)) a_nil))) (fun _ => rfl), fun env c R h => h.2⟩)
    · exact fun sl env he hf => .clo rfl he hf
    · exact hclo _ _ (cloD_of (Ψ := Λ6 gm) (closS_body (fsc := defScope (top 80)) rfl rfl) rfl (fun _ _ _ => rfl) fun A2 outer2 s2 H2 f2 c2 E2 hr2 hG2 M2 RX2 ni2 hE2 => ⟨_, e_call (RX := RX2) O_behind_web_map (by decide) G_behind_web_map F_behind_web_map.kp (F_behind_web_map.bindsN fun _ _ _ _ _ _ us hl => match us, hl with | [_, _, _, _, _], _ => rfl) hE2 ni2 (a_cons (e_var 0 (fun _ => pv 0)) (a_cons (e_non) (a_cons (e_non) (a_cons (e_var 1 (fun _ => pv 1)) (a_cons (e_var 1 (fun _ => pv 1)) a_nil))))) (fun _ => rfl), fun env c R h => h.2⟩)
    · exact fun sl env he hf => .clo rfl he hf
    · exact hclo _ _ (cloD_of (Ψ := Λ7 gm) (closS_body (fsc := defScope (top 80)) rfl rfl) rfl (fun _ _ _ => rfl) fun A2 outer2 s2 H2 f2 c2 E2 hr2 hG2 M2 RX2 ni2 hE2 => ⟨_, e_call (RX := RX2) O_behind_web_map (by decide) G_behind_web_map F_behind_web_map.kp (F_behind_web_map.bindsN fun _ _ _ _ _ _ us hl => match us, hl with | [_, _, _, _, _], _ => rfl) hE2 ni2 (a_cons (e_var 2 (fun _ => pv 2)) (a_cons (e_var 0 (fun _ => pv 0)) (a_cons (e_non) (a_cons (e_var 1 (fun _ => pv 1)) (a_cons (e_var 1 (fun _ => pv 1)) a_nil))))) (fun _ => rfl), fun env c R h => h.2⟩)
    · exact fun sl env he hf => .clo rfl he hf
    · exact hclo _ _ (cloD_of (Ψ := Λ8 gm) (closS_body (fsc := defScope (top 80)) rfl rfl) rfl (fun _ _ _ => rfl) fun A2 outer2 s2 H2 f2 c2 E2 hr2 hG2 M2 RX2 ni2 hE2 => ⟨_, e_call (RX := RX2) O_behind_web_map (by decide) G_behind_web_map F_behind_web_map.kp (F_behind_web_map.bindsN fun _ _ _ _ _ _ us hl => match us, hl with | [_, _, _, _, _], _ => rfl) hE2 ni2 (a_cons (e_var 2 (fun _ => pv 2)) (a_cons (e_var 2 (fun _ => pv 2)) (a_cons (e_var 0 (fun _ => pv 0)) (a_cons (e_var 1 (fun _ => pv 1)) (a_cons (e_var 1 (fun _ => pv 1)) a_nil))))) (fun _ => rfl), fun env c R h => h.2⟩)
    · exact fun sl env he hf => .clo rfl he hf
    · exact hclo _ _ (cloD_of (Ψ := Λ9 gm) (closS_body (fsc := defScope (top 80)) rfl rfl) rfl (fun _ _ _ => rfl) fun A2 outer2 s2 H2 f2 c2 E2 hr2 hG2 M2 RX2 ni2 hE2 => ⟨_, e_call (RX := RX2) O_behind_web_map (by decide) G_behind_web_map F_behind_web_map.kp (F_behind_web_map.bindsN fun _ _ _ _ _ _ us hl => match us, hl with | [_, _, _, _, _], _ => rfl) hE2 ni2 (a_cons (e_var 1 (fun _ => pv 1)) (a_cons (e_var 1 (fun _ => pv 1)) (a_cons (e_var 1 (fun _ => pv 1)) (a_cons (e_var 0 (fun _ => pv 0)) (a_cons (e_non) a_nil))))) (fun _ => rfl), fun env c R h => h.2⟩)
    · exact fun sl env he hf => .clo rfl he hf
    · exact hclo _ _ (cloD_of (Ψ := Λ10 gm) (closS_body (fsc := defScope (top 80)) rfl rfl) rfl (fun _ _ _ => rfl) fun A2 outer2 s2 H2 f2 c2 E2 hr2 hG2 M2 RX2 ni2 hE2 => ⟨_, e_call (RX := RX2) O_behind_web_map (by decide) G_behind_web_map F_behind_web_map.kp (F_behind_web_map.bindsN fun _ _ _ _ _ _ us hl => match us, hl with | [_, _, _, _, _], _ => rfl) hE2 ni2 (a_cons (e_var 2 (fun _ => pv 2)) (a_cons (e_var 2 (fun _ => pv 2)) (a_cons (e_var 2 (fun _ => pv 2)) (a_cons (e_var 1 (fun _ => pv 1)) (a_cons (e_var 0 (fun _ => pv 0)) a_nil))))) (fun _ => rfl), fun env c R h => h.2⟩)
    · exact fun sl env he hf => .clo rfl he hf
    · exact hclo _ _ (cloD_of (Ψ := Λ11 gm) (closS_body (fsc := defScope (top 80)) rfl rfl) rfl (fun _ _ _ => rfl) fun A2 outer2 s2 H2 f2 c2 E2 hr2 hG2 M2 RX2 ni2 hE2 => ⟨_, e_call (RX := RX2) O_web_of (by decide) G_web_of F_web_of.kp (F_web_of.bindsN fun _ _ _ _ _ _ us hl => match us, hl with | [_], _ => rfl) hE2 ni2 (a_cons (e_var 0 (fun _ => pv 0)) a_nil) (fun _ => rfl), fun env c R h => h.2⟩)
  obtain ⟨ψ, ⟨t, pp, snd⟩, pure_⟩ := key
  refine ⟨t, pp (), snd _ _ (fun _ => none) H1 _ _ ?_ pure_ ⟨fun s σ G H hh r x => ?_, fun d s σ v G H hh r x hv => hh v G H hv, fun _ _ _ _ z => z.elim, fun _ _ _ _ z => z.elim⟩⟩
  · refine ⟨fun b o e => (by cases e), fun b _ _ => ⟨rfl, rfl⟩, fun p' L' e => ?_, tab0, by simp [L2.start], fun i x ov h1 h2 => ?_, fun i j ds es a h1 h2 => ?_⟩
    · cases e
      exact ⟨hp, rfl⟩
    · match i with
      | 0 => cases h1; exact True.intro
      | 1 => cases h1; cases h2; exact ⟨p, L, rfl, rfl⟩
      | i + 2 =>
        have h1' : (List.replicate 9 DL.Slot.no)[i]? = some x := h1
        cases (List.eq_of_mem_replicate (List.mem_of_getElem? h1'))
        exact True.intro
    · match i with
      | 0 => cases h1
      | 1 => cases h1
      | i + 2 =>
        have h1' : (List.replicate 9 DL.Slot.no)[i]? = some (.own ds) := h1
        cases (List.eq_of_mem_replicate (List.mem_of_getElem? h1'))
  · exact hh H
end
end K74
namespace K74
open PySem DL
open L2 (atI)
variable {gm : Gm} {c : Int} {R : D → Int → Prop} {RX : DX → Int → Prop}
/-! ### the law, its faults -/
/-- a call of which the fault is due -/
structure Due (gm : Gm) (w due : D) : Prop where
  fit : ∃ p, pyE due = some p ∧ Fit p
  run : ∀ (c : Int) (R : D → Int → Prop) (RX : DX → Int → Prop), R due c → Ψ__law_fault gm [w] c R RX
theorem are_due_ok {es : List D} (hl : es.length ≤ 100) (h : ∀ x ∈ es, ∃ w due, x = .tup [w, due] ∧ Due gm w due) (hR : R (.bl true) c) : Ψ__law_are_due gm [.lst es] c R RX := by
  refine ⟨rfl, ?_⟩
  simp [-pyE, -pyEs]
  refine lc_ind (fun acc l c' => c' = c ∧ (∀ x ∈ l, x ∈ es) ∧ acc.length + l.length = es.length ∧ acc = List.replicate acc.length (.bl true)) ?_ ?_ _ _ _ ⟨rfl, fun _ h => h, by simp, rfl⟩
  · rintro acc c' ⟨rfl, _, _, e⟩
    rw [e]
    refine ⟨List.replicate acc.length true, ?_, ?_⟩
    · generalize acc.length = n
      induction n with
      | zero => rfl
      | succ n ih => simpa [List.replicate_succ] using ih
    · simpa using hR
  · rintro acc x xs c' K ⟨rfl, hm, hle, e⟩ hK
    obtain ⟨w, due, rfl, d⟩ := h x (hm x (by simp))
    obtain ⟨p, hp, fp⟩ := d.fit
    simp [-pyE, -pyEs]
    refine d.run _ _ _ ?_
    have hle' : acc.length + (xs.length + 1) = es.length := hle
    refine ⟨p, hp, fp, p, hp, fp, by omega, ?_⟩
    rw [decide_eq_true rfl]
    refine hK _ _ ⟨rfl, fun y hy => hm y (by simp [hy]), by simp; omega, ?_⟩
    rw [List.length_append, List.length_singleton, List.replicate_succ', ← e]
theorem fault_ok {d : Clo.CloD} {env : List D} {Ψ : DFn} {due : D} (hf : flats env = true) (hc : gm.clo d Ψ) (fit : ∃ p, pyE due = some p ∧ Fit p) (h : ∀ (c : Int) (R : D → Int → Prop) (RX : DX → Int → Prop), (∀ x, (∃ tag, (tag, x.C, x.ns) ∈ tags gm ∧ .tup (.str tag :: x.ds) = due) → RX x c) → Ψ env c R RX) : Due gm (.sc d env) due where
  fit := fit
  run := by
    intro c R RX hR
    refine ⟨d, env, Ψ, rfl, hf, hc, h c _ _ fun x hx => ?_⟩
    obtain ⟨tag, ht, e⟩ := hx
    exact ⟨tag, ht, by rw [e]; exact hR⟩
/-- a closed due is small enough to be shown -/
def fitB (d : D) : Bool := match pyE d with
  | some p => p.showable && (decide (p.depth ≤ 50) && (p.leavesShort 13 && decide (p.weight ≤ 1000)))
  | none => false
theorem fit_dec {d : D} (h : fitB d = true) : ∃ p, pyE d = some p ∧ Fit p := by
  unfold fitB at h
  split at h
  · rename_i p hp
    simp only [Bool.and_eq_true, decide_eq_true_eq] at h
    exact (Sw.mk (k := 50) (w := 1000) ⟨p, hp, h.1, h.2.1, h.2.2.1, h.2.2.2⟩).fit (by omega) (by omega)
  · cases h
theorem web_bad {w : Str} {d : D} (hd : dep 12 d = true) (hb : isWeb (tups d) = false) (hx : RX ⟨gm.a "BadWeb", ["what", "value"], [.str w, d]⟩ c) : Ψ_web_from gm [.str w, d] c R RX :=
  web_from hd (fun h => by rw [hb] at h; cases h) fun _ => hx
theorem wayfrom_bad {N n : Nat} {A B : List Tie} {v : D} (hA : Web N A) (hv : dep 12 v = true) (hb : wayB N n A B (tups v) = false) (hx : RX ⟨gm.a "BadRow", ["row"], [v]⟩ c) : Ψ_way_from gm [webD N A, webD n B, v] c R RX := by
  refine ⟨rfl, ?_⟩
  have d2 := dep_tups hv
  simp [in_tuples, hv]
  refine way_is (k := 8) hA d2 ?_
  rw [hb]
  simpa using hx
theorem need_rooms_bad {d : D} (hd : (tyN d).isSome = true) (hx : RX ⟨gm.a "Unlike", ["what"], [.str "rooms"]⟩ c) : Ψ_need_rooms gm [d] c R RX := by
  refine ⟨rfl, ?_⟩
  cases d <;> simp at hd <;> simpa using hx
def Bads : List D := [.non, .int 5, .tup [.int 0, .tup []], .tup [.int 9, .tup []], .tup [.int 2, .tup [.tup [.int 0, .int 0]]], .tup [.int 2, .tup (List.replicate 13 (.tup [.int 0, .int 1]))], .tup [.int 2], .tup [.bl true, .tup []], .tup [.int 2, .non]]
def Odds : List D := [.non, .int 5, .tup [], .tup [.tup [.int 0], .tup []], .tup [.tup [.int 0, .int 1], .tup []], .tup [.tup [.int 0, .int 1], .tup [.tup [.int 0, .bl true]]], .tup [.tup [.int 0, .int 1], .tup [.tup [.int 1, .bl false]]]]
def web2 : D := .tup [.int 2, .tup [.tup [.int 0, .int 1]]]
def units2 : D := .tup [.tup [.int 0, .int 1], .tup [.tup [.int 0, .bl false]]]
theorem w2 : web2 = webD 2 [(0, 1)] := rfl
theorem web2_ok : Web 2 [(0, 1)] := ⟨by omega, by omega, by simp, fun p hp => by simp at hp; subst hp; exact ⟨by decide, by decide, by decide⟩⟩
theorem bads_ok : ∀ d ∈ Bads, dep 12 d = true ∧ isWeb (tups d) = false ∧ flat d = true ∧ (∀ w ∈ (["above", "middle", "below"] : List Str), fitB (.tup [.str "web", .str w, d]) = true) := by
  intro d hd
  simp only [Bads, List.mem_cons, List.not_mem_nil, or_false] at hd
  rcases hd with rfl | rfl | rfl | rfl | rfl | rfl | rfl | rfl | rfl <;> decide +kernel
theorem odds_ok : ∀ d ∈ Odds, dep 12 d = true ∧ wayB 2 2 [(0, 1)] [(0, 1)] (tups d) = false ∧ flat d = true ∧ (tyN d).isSome = true ∧ fitB (.tup [.str "row", d]) = true := by
  intro d hd
  simp only [Odds, List.mem_cons, List.not_mem_nil, or_false] at hd
  rcases hd with rfl | rfl | rfl | rfl | rfl | rfl | rfl <;> decide +kernel
section
variable {bad odd : D} (hb : bad ∈ Bads) (ho : odd ∈ Odds)
include hb ho
theorem due1 {d : Clo.CloD} (g : gm.clo d (Λ1 gm)) : Due gm (.sc d [bad, odd]) (.tup [.str "web", .str "above", bad]) := by
  obtain ⟨b1, b2, b3, b4⟩ := bads_ok bad hb
  refine fault_ok (by simp [b3, (odds_ok odd ho).2.2.1]) g (fit_dec (b4 _ (by simp))) fun c R RX h => ⟨rfl, ?_⟩
  simp
  refine ⟨rfl, ?_⟩
  simp
  exact web_bad b1 b2 (h _ ⟨"web", by simp [tags], rfl⟩)
theorem due2 {d : Clo.CloD} (g : gm.clo d (Λ2 gm)) : Due gm (.sc d [bad, odd, web2]) (.tup [.str "web", .str "below", bad]) := by
  obtain ⟨b1, b2, b3, b4⟩ := bads_ok bad hb
  refine fault_ok (by simp [b3, (odds_ok odd ho).2.2.1, web2]) g (fit_dec (b4 _ (by simp))) fun c R RX h => ⟨rfl, ?_⟩
  simp
  refine ⟨rfl, ?_⟩
  simp [w2]
  refine web_from_ok (hand_t (by simp)) web2_ok ?_
  try simp
  exact web_bad b1 b2 (h _ ⟨"web", by simp [tags], rfl⟩)
theorem due3 {d : Clo.CloD} (g : gm.clo d (Λ3 gm)) : Due gm (.sc d [bad, odd]) (.tup [.str "web", .str "above", bad]) := by
  obtain ⟨b1, b2, b3, b4⟩ := bads_ok bad hb
  refine fault_ok (by simp [b3, (odds_ok odd ho).2.2.1]) g (fit_dec (b4 _ (by simp))) fun c R RX h => ⟨rfl, ?_⟩
  simp
  refine ⟨rfl, ?_⟩
  simp
  exact web_bad b1 b2 (h _ ⟨"web", by simp [tags], rfl⟩)
theorem due4 {d : Clo.CloD} (g : gm.clo d (Λ4 gm)) : Due gm (.sc d [bad, odd, web2]) (.tup [.str "web", .str "below", bad]) := by
  obtain ⟨b1, b2, b3, b4⟩ := bads_ok bad hb
  refine fault_ok (by simp [b3, (odds_ok odd ho).2.2.1, web2]) g (fit_dec (b4 _ (by simp))) fun c R RX h => ⟨rfl, ?_⟩
  simp
  refine ⟨rfl, ?_⟩
  simp [w2]
  refine web_from_ok (hand_t (by simp)) web2_ok ?_
  try simp
  exact web_bad b1 b2 (h _ ⟨"web", by simp [tags], rfl⟩)
theorem due6 {d : Clo.CloD} (g : gm.clo d (Λ6 gm)) : Due gm (.sc d [bad, odd]) (.tup [.str "web", .str "above", bad]) := by
  obtain ⟨b1, b2, b3, b4⟩ := bads_ok bad hb
  refine fault_ok (by simp [b3, (odds_ok odd ho).2.2.1]) g (fit_dec (b4 _ (by simp))) fun c R RX h => ⟨rfl, ?_⟩
  simp
  refine ⟨rfl, ?_⟩
  simp [-lcL]
  exact web_bad b1 b2 (h _ ⟨"web", by simp [tags], rfl⟩)
theorem due7 {d : Clo.CloD} (g : gm.clo d (Λ7 gm)) : Due gm (.sc d [bad, odd, web2]) (.tup [.str "web", .str "middle", bad]) := by
  obtain ⟨b1, b2, b3, b4⟩ := bads_ok bad hb
  refine fault_ok (by simp [b3, (odds_ok odd ho).2.2.1, web2]) g (fit_dec (b4 _ (by simp))) fun c R RX h => ⟨rfl, ?_⟩
  simp
  refine ⟨rfl, ?_⟩
  simp [w2, -lcL]
  refine web_from_ok (hand_t (by simp)) web2_ok ?_
  try simp [-lcL]
  exact web_bad b1 b2 (h _ ⟨"web", by simp [tags], rfl⟩)
theorem due8 {d : Clo.CloD} (g : gm.clo d (Λ8 gm)) : Due gm (.sc d [bad, odd, web2]) (.tup [.str "web", .str "below", bad]) := by
  obtain ⟨b1, b2, b3, b4⟩ := bads_ok bad hb
  refine fault_ok (by simp [b3, (odds_ok odd ho).2.2.1, web2]) g (fit_dec (b4 _ (by simp))) fun c R RX h => ⟨rfl, ?_⟩
  simp
  refine ⟨rfl, ?_⟩
  simp [w2, -lcL]
  refine web_from_ok (hand_t (by simp)) web2_ok ?_
  try simp [-lcL]
  refine web_from_ok (hand_t (by simp)) web2_ok ?_
  try simp [-lcL]
  exact web_bad b1 b2 (h _ ⟨"web", by simp [tags], rfl⟩)
end
section
variable {odd : D} (ho : odd ∈ Odds)
include ho
theorem due5 {d : Clo.CloD} (g : gm.clo d (Λ5 gm)) : Due gm (.sc d [odd, web2]) (.tup [.str "row", odd]) := by
  obtain ⟨b1, b2, b3, b4, b5⟩ := odds_ok odd ho
  refine fault_ok (by simp [b3, web2]) g (fit_dec b5) fun c R RX h => ⟨rfl, ?_⟩
  simp
  refine ⟨rfl, ?_⟩
  simp [w2, -lcL]
  refine web_from_ok (hand_t (by simp)) web2_ok ?_
  try simp [-lcL]
  refine web_from_ok (hand_t (by simp)) web2_ok ?_
  try simp [-lcL]
  exact wayfrom_bad web2_ok b1 b2 (h _ ⟨"row", by simp [tags], rfl⟩)
theorem due9 {d : Clo.CloD} (g : gm.clo d (Λ9 gm)) : Due gm (.sc d [odd, web2]) (.tup [.str "row", odd]) := by
  obtain ⟨b1, b2, b3, b4, b5⟩ := odds_ok odd ho
  refine fault_ok (by simp [b3, web2]) g (fit_dec b5) fun c R RX h => ⟨rfl, ?_⟩
  simp
  refine ⟨rfl, ?_⟩
  simp [w2, -lcL]
  refine web_from_ok (hand_t (by simp)) web2_ok ?_
  try simp [-lcL]
  refine web_from_ok (hand_t (by simp)) web2_ok ?_
  try simp [-lcL]
  refine web_from_ok (hand_t (by simp)) web2_ok ?_
  try simp [-lcL]
  exact wayfrom_bad web2_ok b1 b2 (h _ ⟨"row", by simp [tags], rfl⟩)
theorem due10 {d : Clo.CloD} (g : gm.clo d (Λ10 gm)) : Due gm (.sc d [odd, units2, web2]) (.tup [.str "row", odd]) := by
  obtain ⟨b1, b2, b3, b4, b5⟩ := odds_ok odd ho
  refine fault_ok (by simp [b3, web2, units2]) g (fit_dec b5) fun c R RX h => ⟨rfl, ?_⟩
  simp
  refine ⟨rfl, ?_⟩
  simp [w2, -lcL]
  refine web_from_ok (hand_t (by simp)) web2_ok ?_
  try simp [-lcL]
  refine web_from_ok (hand_t (by simp)) web2_ok ?_
  try simp [-lcL]
  refine web_from_ok (hand_t (by simp)) web2_ok ?_
  try simp [-lcL]
  have hw : WayOk 2 2 [(0, 1)] [0, 1] [((0, 1), 0, false)] := ⟨web2_ok, rfl, by simp, by simp⟩
  refine wayfrom_ok (ps := [0, 1]) (Z := [((0, 1), 0, false)]) hw (by decide +kernel) (tups_way [0, 1] [((0, 1), 0, false)]) ?_
  try simp [-lcL]
  exact wayfrom_bad web2_ok b1 b2 (h _ ⟨"row", by simp [tags], rfl⟩)
theorem due11 {d : Clo.CloD} (g : gm.clo d (Λ11 gm)) : Due gm (.sc d [odd]) (.tup [.str "unlike", .str "rooms"]) := by
  obtain ⟨b1, b2, b3, b4, b5⟩ := odds_ok odd ho
  refine fault_ok (by simp [b3]) g (fit_dec (by decide +kernel)) fun c R RX h => ⟨rfl, ?_⟩
  simp
  refine ⟨rfl, ?_⟩
  simp [-lcL]
  refine need_rooms_bad b4 (h _ ⟨"unlike", by simp [tags], rfl⟩)
end
end K74
namespace K74
open PySem DL
open L2 (atI)
variable {gm : Gm} {c : Int} {R : D → Int → Prop} {RX : DX → Int → Prop}
theorem law_pure : LawPure gm := by
  intro cells d1 d2 d3 d4 d5 d6 d7 d8 d9 d10 d11 s1 g1 s2 g2 s3 g3 s4 g4 s5 g5 s6 g6 s7 g7 s8 g8 s9 g9 s10 g10 s11 g11 R hR
  unfold Ψ_law
  simp [-lcL]
  refine lc_ind (fun acc l c' => 0 ≤ c' ∧ c' ≤ 1000 * acc.length ∧ acc.length + l.length = 3 ∧ acc = List.replicate acc.length (.bl true)) ?_ ?_ _ _ _ ⟨by omega, by simp, by simp, rfl⟩
  · rintro acc c ⟨c0, c1, hl, e⟩
    have e6 : acc.length = 3 := by simpa using hl
    rw [e6] at e c1
    subst e
    refine ⟨List.replicate 3 true, rfl, ?_⟩
    try simp [-lcL]
    refine copies_ok (by omega) (by omega) fun c2 h1 h2 => ?_
    try simp [-lcL, S.set]
    refine field_ok (by omega) (by omega) fun f hf => ?_
    try simp [-lcL, S.set]
    refine lawrooms_ok hf (by omega) (by omega) fun ws ts c3 hr h3 h4 => ?_
    try simp [-lcL, S.set, -pyE, -pyEs]
    obtain ⟨p, hp, fp⟩ := webR_fit hr
    refine rooms_ok hr ?_
    refine web_of_ok hr ?_
    refine ⟨p, hp, fp, ?_⟩
    refine lawweb_ok hr ?_
    refine ⟨p, hp, fp, ?_⟩
    try simp [-lcL, S.set, -pyE, -pyEs]
    refine pick (by simp) (by simp) (by omega) (by omega) fun bad hbad => ?_
    try simp [-lcL, S.set, -pyE, -pyEs]
    refine pick (by simp) (by simp) (by omega) (by omega) fun odd hodd => ?_
    try simp [-lcL, S.set, -pyE, -pyEs]
    have hbad : bad ∈ Bads := hbad
    have hodd : odd ∈ Odds := hodd
    obtain ⟨_, _, bf, _⟩ := bads_ok bad hbad
    obtain ⟨_, _, of, _⟩ := odds_ok odd hodd
    refine ⟨[.lst [.tup [.sc d1 [bad, odd], .tup [.str "web", .str "above", bad]], .tup [.sc d2 [bad, odd, web2], .tup [.str "web", .str "below", bad]], .tup [.sc d3 [bad, odd], .tup [.str "web", .str "above", bad]], .tup [.sc d4 [bad, odd, web2], .tup [.str "web", .str "below", bad]], .tup [.sc d5 [odd, web2], .tup [.str "row", odd]], .tup [.sc d6 [bad, odd], .tup [.str "web", .str "above", bad]], .tup [.sc d7 [bad, odd, web2], .tup [.str "web", .str "middle", bad]], .tup [.sc d8 [bad, odd, web2], .tup [.str "web", .str "below", bad]], .tup [.sc d9 [odd, web2], .tup [.str "row", odd]], .tup [.sc d10 [odd, units2, web2], .tup [.str "row", odd]], .tup [.sc d11 [odd], .tup [.str "unlike", .str "rooms"]]]], ?_, ?_⟩
    · refine .cons (.lst (.cons (.tup (.cons (s1 _ _ rfl ?_) (.cons (.flat ?_) .nil))) (.cons (.tup (.cons (s2 _ _ rfl ?_) (.cons (.flat ?_) .nil))) (.cons (.tup (.cons (s3 _ _ rfl ?_) (.cons (.flat ?_) .nil))) (.cons (.tup (.cons (s4 _ _ rfl ?_) (.cons (.flat ?_) .nil))) (.cons (.tup (.cons (s5 _ _ rfl ?_) (.cons (.flat ?_) .nil))) (.cons (.tup (.cons (s6 _ _ rfl ?_) (.cons (.flat ?_) .nil))) (.cons (.tup (.cons (s7 _ _ rfl ?_) (.cons (.flat ?_) .nil))) (.cons (.tup (.cons (s8 _ _ rfl ?_) (.cons (.flat ?_) .nil))) (.cons (.tup (.cons (s9 _ _ rfl ?_) (.cons (.flat ?_) .nil))) (.cons (.tup (.cons (s10 _ _ rfl ?_) (.cons (.flat ?_) .nil))) (.cons (.tup (.cons (s11 _ _ rfl ?_) (.cons (.flat ?_) .nil))) .nil)))))))))))) .nil
      all_goals simp [bf, of, web2, units2]
    · refine are_due_ok (by simp) (fun x hx => ?_) ⟨rfl, hR⟩
      simp only [List.mem_cons, List.not_mem_nil, or_false] at hx
      rcases hx with rfl | rfl | rfl | rfl | rfl | rfl | rfl | rfl | rfl | rfl | rfl
      · exact ⟨_, _, rfl, due1 hbad hodd g1⟩
      · exact ⟨_, _, rfl, due2 hbad hodd g2⟩
      · exact ⟨_, _, rfl, due3 hbad hodd g3⟩
      · exact ⟨_, _, rfl, due4 hbad hodd g4⟩
      · exact ⟨_, _, rfl, due5 hodd g5⟩
      · exact ⟨_, _, rfl, due6 hbad hodd g6⟩
      · exact ⟨_, _, rfl, due7 hbad hodd g7⟩
      · exact ⟨_, _, rfl, due8 hbad hodd g8⟩
      · exact ⟨_, _, rfl, due9 hodd g9⟩
      · exact ⟨_, _, rfl, due10 hodd g10⟩
      · exact ⟨_, _, rfl, due11 hodd g11⟩
  · rintro acc x xs c' K ⟨c0, c1, hl, e⟩ hK
    have hl' : acc.length + (xs.length + 1) = 3 := hl
    simp
    refine case_ok (c := c') (by omega) (by omega) fun c2 h1 h2 => ⟨by omega, hK _ _ ⟨by omega, by simp; omega, by simp; omega, ?_⟩⟩
    rw [List.length_append, List.length_singleton, List.replicate_succ', ← e]
end K74
namespace K74
open PySem PySem.Spec PyProof.Rows L2 DL He Hx
open K74h
/-! ### the errors' __init__ -/
section
variable {P : Program} {w : World} {K : PySem.W.Frag} {mg : Str → Option Value} {base : Heap} {f : Addr} {fd : FuncData}
theorem sc_BadLot : FnScope ["self", "lot"] ["self", "lot"] (defScope (ini 7)) := ⟨rfl, rfl, rfl, by decide +kernel, rfl, by decide +kernel, by decide +kernel⟩
theorem ok_BadLot {C : Addr} (F : FunD K "__init__" "BadLot.__init__" (defArgs (ini 7)) (defBody (ini 7)) (defScope (ini 7)) [] [] f fd) (gB : mg "RoomError" = some (.ref (ga K "RoomError"))) (bB : baseB K (ga K "RoomError") = true) : FnOk P w K mg base CX0 1 f fd ["self", "lot"] (spE K C ["lot"]) := by
  have S := sc_BadLot
  obtain ⟨b1, b2, b3⟩ := baseB_ok bB
  refine F.ok S (fun vs H Q E h => ?_) (fun cdv A outer s H vs Q E hr h => ?_)
  · obtain ⟨a, ys, rfl, hl, _⟩ := h
    simpa using hl
  · exact ⟨_, PSs.nox (pss_cons (ps_expr (pe_binit (by rfl) gB b1 b2 b3 (pa_cons (pv 0) (pa_cons pe_str pa_nil)))) (pss_one (ps_ost (pv 0) (pv 1)))), semE1 h⟩
theorem sc_BadNumber : FnScope ["self", "what", "number"] ["self", "what", "number"] (defScope (ini 3)) := ⟨rfl, rfl, rfl, by decide +kernel, rfl, by decide +kernel, by decide +kernel⟩
theorem ok_BadNumber {C : Addr} (F : FunD K "__init__" "BadNumber.__init__" (defArgs (ini 3)) (defBody (ini 3)) (defScope (ini 3)) [] [] f fd) (gB : mg "RoomError" = some (.ref (ga K "RoomError"))) (bB : baseB K (ga K "RoomError") = true) : FnOk P w K mg base CX0 1 f fd ["self", "what", "number"] (spE K C ["what", "number"]) := by
  have S := sc_BadNumber
  obtain ⟨b1, b2, b3⟩ := baseB_ok bB
  refine F.ok S (fun vs H Q E h => ?_) (fun cdv A outer s H vs Q E hr h => ?_)
  · obtain ⟨a, ys, rfl, hl, _⟩ := h
    simpa using hl
  · exact ⟨_, PSs.nox (pss_cons (ps_expr (pe_binit (by rfl) gB b1 b2 b3 (pa_cons (pv 0) (pa_cons pe_str pa_nil)))) (pss_cons (ps_ost (pv 0) (pv 1)) (pss_one (ps_ost (pv 0) (pv 2))))), semE2 h⟩
theorem sc_BadRow : FnScope ["self", "row"] ["self", "row"] (defScope (ini 5)) := ⟨rfl, rfl, rfl, by decide +kernel, rfl, by decide +kernel, by decide +kernel⟩
theorem ok_BadRow {C : Addr} (F : FunD K "__init__" "BadRow.__init__" (defArgs (ini 5)) (defBody (ini 5)) (defScope (ini 5)) [] [] f fd) (gB : mg "RoomError" = some (.ref (ga K "RoomError"))) (bB : baseB K (ga K "RoomError") = true) : FnOk P w K mg base CX0 1 f fd ["self", "row"] (spE K C ["row"]) := by
  have S := sc_BadRow
  obtain ⟨b1, b2, b3⟩ := baseB_ok bB
  refine F.ok S (fun vs H Q E h => ?_) (fun cdv A outer s H vs Q E hr h => ?_)
  · obtain ⟨a, ys, rfl, hl, _⟩ := h
    simpa using hl
  · exact ⟨_, PSs.nox (pss_cons (ps_expr (pe_binit (by rfl) gB b1 b2 b3 (pa_cons (pv 0) (pa_cons pe_str pa_nil)))) (pss_one (ps_ost (pv 0) (pv 1)))), semE1 h⟩
theorem sc_BadTable : FnScope ["self", "table"] ["self", "table"] (defScope (ini 6)) := ⟨rfl, rfl, rfl, by decide +kernel, rfl, by decide +kernel, by decide +kernel⟩
theorem ok_BadTable {C : Addr} (F : FunD K "__init__" "BadTable.__init__" (defArgs (ini 6)) (defBody (ini 6)) (defScope (ini 6)) [] [] f fd) (gB : mg "RoomError" = some (.ref (ga K "RoomError"))) (bB : baseB K (ga K "RoomError") = true) : FnOk P w K mg base CX0 1 f fd ["self", "table"] (spE K C ["table"]) := by
  have S := sc_BadTable
  obtain ⟨b1, b2, b3⟩ := baseB_ok bB
  refine F.ok S (fun vs H Q E h => ?_) (fun cdv A outer s H vs Q E hr h => ?_)
  · obtain ⟨a, ys, rfl, hl, _⟩ := h
    simpa using hl
  · exact ⟨_, PSs.nox (pss_cons (ps_expr (pe_binit (by rfl) gB b1 b2 b3 (pa_cons (pv 0) (pa_cons pe_str pa_nil)))) (pss_one (ps_ost (pv 0) (pv 1)))), semE1 h⟩
theorem sc_BadWeb : FnScope ["self", "what", "value"] ["self", "what", "value"] (defScope (ini 4)) := ⟨rfl, rfl, rfl, by decide +kernel, rfl, by decide +kernel, by decide +kernel⟩
theorem ok_BadWeb {C : Addr} (F : FunD K "__init__" "BadWeb.__init__" (defArgs (ini 4)) (defBody (ini 4)) (defScope (ini 4)) [] [] f fd) (gB : mg "RoomError" = some (.ref (ga K "RoomError"))) (bB : baseB K (ga K "RoomError") = true) : FnOk P w K mg base CX0 1 f fd ["self", "what", "value"] (spE K C ["what", "value"]) := by
  have S := sc_BadWeb
  obtain ⟨b1, b2, b3⟩ := baseB_ok bB
  refine F.ok S (fun vs H Q E h => ?_) (fun cdv A outer s H vs Q E hr h => ?_)
  · obtain ⟨a, ys, rfl, hl, _⟩ := h
    simpa using hl
  · exact ⟨_, PSs.nox (pss_cons (ps_expr (pe_binit (by rfl) gB b1 b2 b3 (pa_cons (pv 0) (pa_cons pe_str pa_nil)))) (pss_cons (ps_ost (pv 0) (pv 1)) (pss_one (ps_ost (pv 0) (pv 2))))), semE2 h⟩
theorem sc_TooMany : FnScope ["self", "what", "many", "limit"] ["self", "what", "many", "limit"] (defScope (ini 9)) := ⟨rfl, rfl, rfl, by decide +kernel, rfl, by decide +kernel, by decide +kernel⟩
theorem ok_TooMany {C : Addr} (F : FunD K "__init__" "TooMany.__init__" (defArgs (ini 9)) (defBody (ini 9)) (defScope (ini 9)) [] [] f fd) (gB : mg "RoomError" = some (.ref (ga K "RoomError"))) (bB : baseB K (ga K "RoomError") = true) : FnOk P w K mg base CX0 1 f fd ["self", "what", "many", "limit"] (spE K C ["what", "many", "limit"]) := by
  have S := sc_TooMany
  obtain ⟨b1, b2, b3⟩ := baseB_ok bB
  refine F.ok S (fun vs H Q E h => ?_) (fun cdv A outer s H vs Q E hr h => ?_)
  · obtain ⟨a, ys, rfl, hl, _⟩ := h
    simpa using hl
  · exact ⟨_, PSs.nox (pss_cons (ps_expr (pe_binit (by rfl) gB b1 b2 b3 (pa_cons (pv 0) (pa_cons pe_str pa_nil)))) (pss_cons (ps_ost (pv 0) (pv 1)) (pss_cons (ps_ost (pv 0) (pv 2)) (pss_one (ps_ost (pv 0) (pv 3)))))), semE3 h⟩
theorem sc_Unlike : FnScope ["self", "what"] ["self", "what"] (defScope (ini 8)) := ⟨rfl, rfl, rfl, by decide +kernel, rfl, by decide +kernel, by decide +kernel⟩
theorem ok_Unlike {C : Addr} (F : FunD K "__init__" "Unlike.__init__" (defArgs (ini 8)) (defBody (ini 8)) (defScope (ini 8)) [] [] f fd) (gB : mg "RoomError" = some (.ref (ga K "RoomError"))) (bB : baseB K (ga K "RoomError") = true) : FnOk P w K mg base CX0 1 f fd ["self", "what"] (spE K C ["what"]) := by
  have S := sc_Unlike
  obtain ⟨b1, b2, b3⟩ := baseB_ok bB
  refine F.ok S (fun vs H Q E h => ?_) (fun cdv A outer s H vs Q E hr h => ?_)
  · obtain ⟨a, ys, rfl, hl, _⟩ := h
    simpa using hl
  · exact ⟨_, PSs.nox (pss_cons (ps_expr (pe_binit (by rfl) gB b1 b2 b3 (pa_cons (pv 0) (pa_cons pe_str pa_nil)))) (pss_one (ps_ost (pv 0) (pv 1)))), semE1 h⟩
end
/-! ### the head -/
section
variable {P : Program} {w : World} {K : PySem.W.Frag} {hp : Heap} {mg : Str → Option Value} {base : Heap}
def tabT (K : PySem.W.Frag) : List (Addr × Str) := [((cT K ("law", none)).2, ("law.<locals>.<lambda>" : Str))]
def gmK (P : Program) (w : World) (K : PySem.W.Frag) (mg : Str → Option Value) (base : Heap) : Gm := ⟨fun x => ga K x, fun d Ψ => DL.CloD P w K mg base 39 d Ψ⟩
theorem uniqT (h : (tf.map fun p => (cT K p).2).Nodup) (i : Nat) {a : Addr} {q : Str} (hi : (tabT K)[i]? = some (a, q)) : ∀ p ∈ tabT K, p.1 = a → p.2 = q := by
  intro p hp e
  obtain ⟨j, hj, rfl⟩ := List.getElem_of_mem hp
  have hm : tf.map (fun p => (cT K p).2) = (tabT K).map Prod.fst := rfl
  rw [hm] at h
  have e1 : ((tabT K).map Prod.fst)[j]? = some a := by rw [List.getElem?_map, List.getElem?_eq_getElem hj]; exact congrArg some e
  have e2 : ((tabT K).map Prod.fst)[i]? = some a := by rw [List.getElem?_map, hi]; rfl
  have e4 : j = i := nd_inj h e1 e2
  subst e4
  rw [List.getElem?_eq_getElem hj] at hi
  rw [Option.some.inj hi]
theorem al_of (X : K.In hp) (G : hp.Ns mainGlobals mg) (c : SaysY fa fn tf exB hp K) (KB : K.In base) (GB : base.Ns mainGlobals mg) (TB : ∀ p ∈ tf.map (cT K), LamX.TabB base mg p.1 p.2) :
    ∃ fd, FunD K "law" "law" (defArgs (top 80)) (defBody (top 80)) (defScope (top 80)) [] [] (ga K "law") fd ∧ Gd.FnG P w K mg base (L2.CX P w) 45 (ga K "law") fd ["script"] (spLaw K (tabT K)) := by
  obtain ⟨x1, x⟩ := ba c.ex
  obtain ⟨x2, x⟩ := ba x
  obtain ⟨x3, x⟩ := ba x
  obtain ⟨y0, x⟩ := ba x
  obtain ⟨y1, x⟩ := ba x
  obtain ⟨y2, x⟩ := ba x
  have x4 := of_decide_eq_true y0
  have Sy : Sys K := sys_of x1
  have er := fun {q : Hx.Row} (hq : q ∈ rows) => tagsK_err x3 hq
  have B : Bs mg := ⟨(free_ok X G (c.d.fact 55 rfl)), (free_ok X G (c.d.fact 56 rfl)), (free_ok X G (c.d.fact 57 rfl)), (free_ok X G (c.d.fact 58 rfl)), (free_ok X G (c.d.fact 59 rfl)), (free_ok X G (c.d.fact 60 rfl)), (free_ok X G (c.d.fact 61 rfl)), (free_ok X G (c.d.fact 62 rfl)), (free_ok X G (c.d.fact 63 rfl)), (free_ok X G (c.d.fact 64 rfl)), (free_ok X G (c.d.fact 65 rfl)), (free_ok X G (c.d.fact 66 rfl)), (free_ok X G (c.d.fact 67 rfl)), (free_ok X G (c.d.fact 68 rfl)), (free_ok X G (c.d.fact 69 rfl)), (free_ok X G (c.d.fact 70 rfl)), (free_ok X G (c.d.fact 71 rfl)), (free_ok X G (c.d.fact 72 rfl)), (free_ok X G (c.d.fact 73 rfl)), (free_ok X G (c.d.fact 74 rfl))⟩
  obtain ⟨fd_is_whole, F_is_whole⟩ := c.d.def_ 0 rfl
  obtain ⟨fd_in_tuples, F_in_tuples⟩ := c.d.def_ 1 rfl
  obtain ⟨fd_is_tuple_of, F_is_tuple_of⟩ := c.d.def_ 2 rfl
  obtain ⟨fd_is_pair, F_is_pair⟩ := c.d.def_ 3 rfl
  obtain ⟨fd_lowest, F_lowest⟩ := c.d.def_ 4 rfl
  obtain ⟨fd_told, F_told⟩ := c.d.def_ 5 rfl
  obtain ⟨fd_is_item, F_is_item⟩ := c.d.def_ 6 rfl
  obtain ⟨fd_item_of, F_item_of⟩ := c.d.def_ 7 rfl
  obtain ⟨fd_is_web, F_is_web⟩ := c.d.def_ 8 rfl
  obtain ⟨fd_web_from, F_web_from⟩ := c.d.def_ 9 rfl
  obtain ⟨fd_need_field, F_need_field⟩ := c.d.def_ 10 rfl
  obtain ⟨fd_is_row, F_is_row⟩ := c.d.def_ 11 rfl
  obtain ⟨fd_told_row, F_told_row⟩ := c.d.def_ 12 rfl
  obtain ⟨fd_loose_row, F_loose_row⟩ := c.d.def_ 13 rfl
  obtain ⟨fd_is_table, F_is_table⟩ := c.d.def_ 14 rfl
  obtain ⟨fd_rooms_key, F_rooms_key⟩ := c.d.def_ 15 rfl
  obtain ⟨fd_are_widths, F_are_widths⟩ := c.d.def_ 16 rfl
  obtain ⟨fd_loose_table, F_loose_table⟩ := c.d.def_ 17 rfl
  obtain ⟨fd_tie_from, F_tie_from⟩ := c.d.def_ 18 rfl
  obtain ⟨fd_need_rooms, F_need_rooms⟩ := c.d.def_ 19 rfl
  obtain ⟨fd_web_by, F_web_by⟩ := c.d.def_ 20 rfl
  obtain ⟨fd_web_of, F_web_of⟩ := c.d.def_ 21 rfl
  obtain ⟨fd_is_end, F_is_end⟩ := c.d.def_ 22 rfl
  obtain ⟨fd_is_way, F_is_way⟩ := c.d.def_ 23 rfl
  obtain ⟨fd_is_web_map, F_is_web_map⟩ := c.d.def_ 24 rfl
  obtain ⟨fd_way_from, F_way_from⟩ := c.d.def_ 25 rfl
  obtain ⟨fd_behind_web_map, F_behind_web_map⟩ := c.d.def_ 26 rfl
  obtain ⟨fd_ends_over, F_ends_over⟩ := c.d.def_ 27 rfl
  obtain ⟨fd_is_cover_by, F_is_cover_by⟩ := c.d.def_ 28 rfl
  obtain ⟨fd_is_cover, F_is_cover⟩ := c.d.def_ 29 rfl
  obtain ⟨fd__law_pen, F__law_pen⟩ := c.d.def_ 30 rfl
  obtain ⟨fd__law_draw, F__law_draw⟩ := c.d.def_ 31 rfl
  obtain ⟨fd__law_pick, F__law_pick⟩ := c.d.def_ 32 rfl
  obtain ⟨fd__law_shuffled, F__law_shuffled⟩ := c.d.def_ 33 rfl
  obtain ⟨fd__law_is_int, F__law_is_int⟩ := c.d.def_ 34 rfl
  obtain ⟨fd__law_gcd, F__law_gcd⟩ := c.d.def_ 35 rfl
  obtain ⟨fd__law_q, F__law_q⟩ := c.d.def_ 36 rfl
  obtain ⟨fd__law_number, F__law_number⟩ := c.d.def_ 37 rfl
  obtain ⟨fd__law_field, F__law_field⟩ := c.d.def_ 38 rfl
  obtain ⟨fd__law_item, F__law_item⟩ := c.d.def_ 39 rfl
  obtain ⟨fd__law_row, F__law_row⟩ := c.d.def_ 40 rfl
  obtain ⟨fd__law_table, F__law_table⟩ := c.d.def_ 41 rfl
  obtain ⟨fd__law_widths, F__law_widths⟩ := c.d.def_ 42 rfl
  obtain ⟨fd__law_rooms, F__law_rooms⟩ := c.d.def_ 43 rfl
  obtain ⟨fd__law_fault, F__law_fault⟩ := c.d.def_ 44 rfl
  obtain ⟨fd__law_are_due, F__law_are_due⟩ := c.d.def_ 45 rfl
  obtain ⟨fd__law_plain_web, F__law_plain_web⟩ := c.d.def_ 46 rfl
  obtain ⟨fd__law_is_way, F__law_is_way⟩ := c.d.def_ 47 rfl
  obtain ⟨fd__law_upon, F__law_upon⟩ := c.d.def_ 48 rfl
  obtain ⟨fd__law_web_by, F__law_web_by⟩ := c.d.def_ 49 rfl
  obtain ⟨fd__law_covers, F__law_covers⟩ := c.d.def_ 50 rfl
  obtain ⟨fd__law_wrong, F__law_wrong⟩ := c.d.def_ 51 rfl
  obtain ⟨fd__law_case, F__law_case⟩ := c.d.def_ 52 rfl
  obtain ⟨fd__law_copies_hold, F__law_copies_hold⟩ := c.d.def_ 53 rfl
  obtain ⟨fd_law, F_law⟩ := c.d.def_ 54 rfl
  obtain ⟨fd_BadLot, F_BadLot⟩ := c.d.def_ 55 rfl
  have e_BadLot := er (q := ("lot", "BadLot", ["lot"])) (by simp [rows])
  have T_BadLot : Err P w K mg base "BadLot" ((gmK P w K mg base).a "BadLot") ["lot"] := ⟨(glo_ok X G (c.d.fact 76 rfl)), e_BadLot.cls, ⟨_, fd_BadLot, e_BadLot.ini, e_BadLot.fn, ok_BadLot F_BadLot (glo_ok X G (c.d.fact 75 rfl)) x2, F_BadLot.bindsN fun _ _ _ _ _ _ us hl => match us, hl with | [_, _], _ => rfl⟩, e_BadLot.no⟩
  obtain ⟨fd_BadNumber, F_BadNumber⟩ := c.d.def_ 56 rfl
  have e_BadNumber := er (q := ("number", "BadNumber", ["what", "number"])) (by simp [rows])
  have T_BadNumber : Err P w K mg base "BadNumber" ((gmK P w K mg base).a "BadNumber") ["what", "number"] := ⟨(glo_ok X G (c.d.fact 77 rfl)), e_BadNumber.cls, ⟨_, fd_BadNumber, e_BadNumber.ini, e_BadNumber.fn, ok_BadNumber F_BadNumber (glo_ok X G (c.d.fact 75 rfl)) x2, F_BadNumber.bindsN fun _ _ _ _ _ _ us hl => match us, hl with | [_, _, _], _ => rfl⟩, e_BadNumber.no⟩
  obtain ⟨fd_BadRow, F_BadRow⟩ := c.d.def_ 57 rfl
  have e_BadRow := er (q := ("row", "BadRow", ["row"])) (by simp [rows])
  have T_BadRow : Err P w K mg base "BadRow" ((gmK P w K mg base).a "BadRow") ["row"] := ⟨(glo_ok X G (c.d.fact 78 rfl)), e_BadRow.cls, ⟨_, fd_BadRow, e_BadRow.ini, e_BadRow.fn, ok_BadRow F_BadRow (glo_ok X G (c.d.fact 75 rfl)) x2, F_BadRow.bindsN fun _ _ _ _ _ _ us hl => match us, hl with | [_, _], _ => rfl⟩, e_BadRow.no⟩
  obtain ⟨fd_BadTable, F_BadTable⟩ := c.d.def_ 58 rfl
  have e_BadTable := er (q := ("table", "BadTable", ["table"])) (by simp [rows])
  have T_BadTable : Err P w K mg base "BadTable" ((gmK P w K mg base).a "BadTable") ["table"] := ⟨(glo_ok X G (c.d.fact 79 rfl)), e_BadTable.cls, ⟨_, fd_BadTable, e_BadTable.ini, e_BadTable.fn, ok_BadTable F_BadTable (glo_ok X G (c.d.fact 75 rfl)) x2, F_BadTable.bindsN fun _ _ _ _ _ _ us hl => match us, hl with | [_, _], _ => rfl⟩, e_BadTable.no⟩
  obtain ⟨fd_BadWeb, F_BadWeb⟩ := c.d.def_ 59 rfl
  have e_BadWeb := er (q := ("web", "BadWeb", ["what", "value"])) (by simp [rows])
  have T_BadWeb : Err P w K mg base "BadWeb" ((gmK P w K mg base).a "BadWeb") ["what", "value"] := ⟨(glo_ok X G (c.d.fact 80 rfl)), e_BadWeb.cls, ⟨_, fd_BadWeb, e_BadWeb.ini, e_BadWeb.fn, ok_BadWeb F_BadWeb (glo_ok X G (c.d.fact 75 rfl)) x2, F_BadWeb.bindsN fun _ _ _ _ _ _ us hl => match us, hl with | [_, _, _], _ => rfl⟩, e_BadWeb.no⟩
  obtain ⟨fd_TooMany, F_TooMany⟩ := c.d.def_ 60 rfl
  have e_TooMany := er (q := ("many", "TooMany", ["what", "many", "limit"])) (by simp [rows])
  have T_TooMany : Err P w K mg base "TooMany" ((gmK P w K mg base).a "TooMany") ["what", "many", "limit"] := ⟨(glo_ok X G (c.d.fact 81 rfl)), e_TooMany.cls, ⟨_, fd_TooMany, e_TooMany.ini, e_TooMany.fn, ok_TooMany F_TooMany (glo_ok X G (c.d.fact 75 rfl)) x2, F_TooMany.bindsN fun _ _ _ _ _ _ us hl => match us, hl with | [_, _, _, _], _ => rfl⟩, e_TooMany.no⟩
  obtain ⟨fd_Unlike, F_Unlike⟩ := c.d.def_ 61 rfl
  have e_Unlike := er (q := ("unlike", "Unlike", ["what"])) (by simp [rows])
  have T_Unlike : Err P w K mg base "Unlike" ((gmK P w K mg base).a "Unlike") ["what"] := ⟨(glo_ok X G (c.d.fact 82 rfl)), e_Unlike.cls, ⟨_, fd_Unlike, e_Unlike.ini, e_Unlike.fn, ok_Unlike F_Unlike (glo_ok X G (c.d.fact 75 rfl)) x2, F_Unlike.bindsN fun _ _ _ _ _ _ us hl => match us, hl with | [_, _], _ => rfl⟩, e_Unlike.no⟩
  have TG : TagsOk K (tags (gmK P w K mg base)) := tagsK_ok (l := rows) x3
  have h__law_draw : Ok__law_draw P w K mg base (tabT K) (gmK P w K mg base) := ok__law_draw B F__law_draw (glo_ok X G (c.d.fact 31 rfl))
  have h_in_tuples : Ok_in_tuples P w K mg base (tabT K) (gmK P w K mg base) := ok_in_tuples B F_in_tuples (glo_ok X G (c.d.fact 1 rfl))
  have h__law_fault : Ok__law_fault P w K mg base (tabT K) (gmK P w K mg base) := ok__law_fault F__law_fault TG (glo_ok X G (c.d.fact 76 rfl)) e_BadLot.xf e_BadLot.no (glo_ok X G (c.d.fact 77 rfl)) e_BadNumber.xf e_BadNumber.no (glo_ok X G (c.d.fact 78 rfl)) e_BadRow.xf e_BadRow.no (glo_ok X G (c.d.fact 79 rfl)) e_BadTable.xf e_BadTable.no (glo_ok X G (c.d.fact 80 rfl)) e_BadWeb.xf e_BadWeb.no (glo_ok X G (c.d.fact 81 rfl)) e_TooMany.xf e_TooMany.no (glo_ok X G (c.d.fact 82 rfl)) e_Unlike.xf e_Unlike.no (glo_ok X G (c.d.fact 44 rfl)) (fun _ _ h => h)
  obtain ⟨fd_Rooms, F_Rooms⟩ := c.d.def_ 62 rfl
  have X_Rooms : ObjK K mg "Rooms" ((gmK P w K mg base).a "Rooms") ["field", "widths", "ties"] := ⟨(glo_ok X G (c.d.fact 89 rfl)), (cls_ok (c.d.fact 90 rfl)), fun f hf => by
    simp only [List.mem_cons, List.not_mem_nil, or_false] at hf
    rcases hf with rfl | rfl | rfl
    · exact noat_ok (c.d.fact 92 rfl)
    · exact noat_ok (c.d.fact 93 rfl)
    · exact noat_ok (c.d.fact 94 rfl), isK_of y1 (cls_ok (c.d.fact 90 rfl))⟩
  have m_gcd : mg "gcd" = some (.builtin "math.gcd") := mgB_ok X G y2
  have k_FIELDS : mg "FIELDS" = some (.ref ((gmK P w K mg base).a "FIELDS")) ∧ ∀ H, SqT K H ((gmK P w K mg base).a "FIELDS") (([0, 2, 3, 5, 7] : List Int).map V.int) := ⟨(glo_ok X G (c.d.fact 95 rfl)), tupI_ok x⟩
  have h_is_whole : Ok_is_whole P w K mg base (tabT K) (gmK P w K mg base) := ok_is_whole B Sy F_is_whole (glo_ok X G (c.d.fact 0 rfl))
  have h_is_tuple_of : Ok_is_tuple_of P w K mg base (tabT K) (gmK P w K mg base) := ok_is_tuple_of B Sy F_is_tuple_of (glo_ok X G (c.d.fact 2 rfl))
  have h_is_pair : Ok_is_pair P w K mg base (tabT K) (gmK P w K mg base) := ok_is_pair B Sy F_is_pair h_is_whole (glo_ok X G (c.d.fact 3 rfl))
  have h_lowest : Ok_lowest P w K mg base (tabT K) (gmK P w K mg base) := ok_lowest B Sy F_lowest m_gcd (glo_ok X G (c.d.fact 4 rfl))
  have h_told : Ok_told P w K mg base (tabT K) (gmK P w K mg base) := ok_told B Sy F_told T_BadRow h_is_whole h_is_pair h_lowest (glo_ok X G (c.d.fact 5 rfl))
  have h_is_item : Ok_is_item P w K mg base (tabT K) (gmK P w K mg base) := ok_is_item B Sy F_is_item h_is_pair h_is_whole (glo_ok X G (c.d.fact 6 rfl))
  have h_item_of : Ok_item_of P w K mg base (tabT K) (gmK P w K mg base) := ok_item_of B Sy F_item_of h_told (glo_ok X G (c.d.fact 7 rfl))
  have h_is_web : Ok_is_web P w K mg base (tabT K) (gmK P w K mg base) := ok_is_web B Sy F_is_web h_is_whole h_is_tuple_of (int_ok X G (c.d.fact 83 rfl)) (int_ok X G (c.d.fact 84 rfl)) (glo_ok X G (c.d.fact 8 rfl))
  have h_web_from : Ok_web_from P w K mg base (tabT K) (gmK P w K mg base) := ok_web_from B Sy F_web_from T_BadWeb h_in_tuples h_is_web (glo_ok X G (c.d.fact 9 rfl))
  have h_need_field : Ok_need_field P w K mg base (tabT K) (gmK P w K mg base) := ok_need_field B Sy F_need_field T_BadNumber k_FIELDS h_is_whole (glo_ok X G (c.d.fact 10 rfl))
  have h_is_row : Ok_is_row P w K mg base (tabT K) (gmK P w K mg base) := ok_is_row B Sy F_is_row h_is_item h_is_tuple_of (glo_ok X G (c.d.fact 11 rfl))
  have h_told_row : Ok_told_row P w K mg base (tabT K) (gmK P w K mg base) := ok_told_row B Sy F_told_row h_item_of (glo_ok X G (c.d.fact 12 rfl))
  have h_loose_row : Ok_loose_row P w K mg base (tabT K) (gmK P w K mg base) := ok_loose_row B Sy F_loose_row h_in_tuples (glo_ok X G (c.d.fact 13 rfl))
  have h_is_table : Ok_is_table P w K mg base (tabT K) (gmK P w K mg base) := ok_is_table B Sy F_is_table h_is_row (glo_ok X G (c.d.fact 14 rfl))
  have h_are_widths : Ok_are_widths P w K mg base (tabT K) (gmK P w K mg base) := ok_are_widths B Sy F_are_widths h_is_whole (int_ok X G (c.d.fact 85 rfl)) (int_ok X G (c.d.fact 87 rfl)) (int_ok X G (c.d.fact 86 rfl)) (glo_ok X G (c.d.fact 16 rfl))
  have h_loose_table : Ok_loose_table P w K mg base (tabT K) (gmK P w K mg base) := ok_loose_table B Sy F_loose_table h_loose_row (glo_ok X G (c.d.fact 17 rfl))
  have h_tie_from : Ok_tie_from P w K mg base (tabT K) (gmK P w K mg base) := ok_tie_from B Sy F_tie_from h_loose_table h_is_whole h_is_table h_told_row (int_ok X G (c.d.fact 86 rfl)) (glo_ok X G (c.d.fact 18 rfl))
  have h_Rooms : Ok_Rooms P w K mg base (tabT K) (gmK P w K mg base) := ok_Rooms B Sy F_Rooms (mkr_ok (c.d.fact 91 rfl)) T_BadWeb X_Rooms h_need_field h_in_tuples h_are_widths h_tie_from (int_ok X G (c.d.fact 88 rfl)) 
  have h_rooms_key : Ok_rooms_key P w K mg base (tabT K) (gmK P w K mg base) := ok_rooms_key B Sy F_rooms_key X_Rooms (glo_ok X G (c.d.fact 15 rfl))
  have h_need_rooms : Ok_need_rooms P w K mg base (tabT K) (gmK P w K mg base) := ok_need_rooms B Sy F_need_rooms T_Unlike X_Rooms (glo_ok X G (c.d.fact 19 rfl))
  have h_web_by : Ok_web_by P w K mg base (tabT K) (gmK P w K mg base) := ok_web_by B Sy F_web_by X_Rooms (glo_ok X G (c.d.fact 20 rfl))
  have h_web_of : Ok_web_of P w K mg base (tabT K) (gmK P w K mg base) := ok_web_of B Sy F_web_of h_need_rooms h_web_by (glo_ok X G (c.d.fact 21 rfl))
  have h_is_end : Ok_is_end P w K mg base (tabT K) (gmK P w K mg base) := ok_is_end B Sy F_is_end h_is_whole h_is_tuple_of (glo_ok X G (c.d.fact 22 rfl))
  have h_is_way : Ok_is_way P w K mg base (tabT K) (gmK P w K mg base) := ok_is_way B Sy F_is_way h_is_tuple_of h_is_whole h_is_end (glo_ok X G (c.d.fact 23 rfl))
  have h_is_web_map : Ok_is_web_map P w K mg base (tabT K) (gmK P w K mg base) := ok_is_web_map B Sy F_is_web_map h_web_from h_is_way (glo_ok X G (c.d.fact 24 rfl))
  have h_way_from : Ok_way_from P w K mg base (tabT K) (gmK P w K mg base) := ok_way_from B Sy F_way_from T_BadRow h_in_tuples h_is_way (glo_ok X G (c.d.fact 25 rfl))
  have h_behind_web_map : Ok_behind_web_map P w K mg base (tabT K) (gmK P w K mg base) := ok_behind_web_map B Sy F_behind_web_map h_web_from h_way_from (glo_ok X G (c.d.fact 26 rfl))
  have h_ends_over : Ok_ends_over P w K mg base (tabT K) (gmK P w K mg base) := ok_ends_over B Sy F_ends_over (glo_ok X G (c.d.fact 27 rfl))
  have h_is_cover_by : Ok_is_cover_by P w K mg base (tabT K) (gmK P w K mg base) := ok_is_cover_by B Sy F_is_cover_by h_ends_over (glo_ok X G (c.d.fact 28 rfl))
  have h_is_cover : Ok_is_cover P w K mg base (tabT K) (gmK P w K mg base) := ok_is_cover B Sy F_is_cover h_web_from h_is_cover_by h_way_from (glo_ok X G (c.d.fact 29 rfl))
  have h__law_pick : Ok__law_pick P w K mg base (tabT K) (gmK P w K mg base) := ok__law_pick B Sy F__law_pick h__law_draw (glo_ok X G (c.d.fact 32 rfl))
  have h__law_shuffled : Ok__law_shuffled P w K mg base (tabT K) (gmK P w K mg base) := ok__law_shuffled B Sy F__law_shuffled h__law_draw (glo_ok X G (c.d.fact 33 rfl))
  have h__law_is_int : Ok__law_is_int P w K mg base (tabT K) (gmK P w K mg base) := ok__law_is_int B Sy F__law_is_int (glo_ok X G (c.d.fact 34 rfl))
  have h__law_gcd : Ok__law_gcd P w K mg base (tabT K) (gmK P w K mg base) := ok__law_gcd B Sy F__law_gcd (glo_ok X G (c.d.fact 35 rfl))
  have h__law_q : Ok__law_q P w K mg base (tabT K) (gmK P w K mg base) := ok__law_q B Sy F__law_q h__law_gcd (glo_ok X G (c.d.fact 36 rfl))
  have h__law_number : Ok__law_number P w K mg base (tabT K) (gmK P w K mg base) := ok__law_number B Sy F__law_number h__law_draw h__law_q h__law_pick (glo_ok X G (c.d.fact 37 rfl))
  have h__law_field : Ok__law_field P w K mg base (tabT K) (gmK P w K mg base) := ok__law_field B Sy F__law_field h__law_pick (glo_ok X G (c.d.fact 38 rfl))
  have h__law_item : Ok__law_item P w K mg base (tabT K) (gmK P w K mg base) := ok__law_item B Sy F__law_item h__law_number h__law_draw (glo_ok X G (c.d.fact 39 rfl))
  have h__law_row : Ok__law_row P w K mg base (tabT K) (gmK P w K mg base) := ok__law_row B Sy F__law_row h__law_item (glo_ok X G (c.d.fact 40 rfl))
  have h__law_table : Ok__law_table P w K mg base (tabT K) (gmK P w K mg base) := ok__law_table B Sy F__law_table h__law_row (glo_ok X G (c.d.fact 41 rfl))
  have h__law_widths : Ok__law_widths P w K mg base (tabT K) (gmK P w K mg base) := ok__law_widths B Sy F__law_widths h__law_draw (glo_ok X G (c.d.fact 42 rfl))
  have h__law_rooms : Ok__law_rooms P w K mg base (tabT K) (gmK P w K mg base) := ok__law_rooms B Sy F__law_rooms h__law_widths h__law_draw h__law_shuffled h__law_pick h__law_table (glo_ok X G (c.d.fact 43 rfl))
  have h__law_are_due : Ok__law_are_due P w K mg base (tabT K) (gmK P w K mg base) := ok__law_are_due B Sy F__law_are_due h__law_fault (glo_ok X G (c.d.fact 45 rfl))
  have h__law_plain_web : Ok__law_plain_web P w K mg base (tabT K) (gmK P w K mg base) := ok__law_plain_web B Sy F__law_plain_web h__law_draw h__law_shuffled (glo_ok X G (c.d.fact 46 rfl))
  have h__law_is_way : Ok__law_is_way P w K mg base (tabT K) (gmK P w K mg base) := ok__law_is_way B Sy F__law_is_way h__law_is_int (glo_ok X G (c.d.fact 47 rfl))
  have h__law_upon : Ok__law_upon P w K mg base (tabT K) (gmK P w K mg base) := ok__law_upon B Sy F__law_upon h__law_draw h__law_pick (glo_ok X G (c.d.fact 48 rfl))
  have h__law_web_by : Ok__law_web_by P w K mg base (tabT K) (gmK P w K mg base) := ok__law_web_by B Sy F__law_web_by (glo_ok X G (c.d.fact 49 rfl))
  have h__law_covers : Ok__law_covers P w K mg base (tabT K) (gmK P w K mg base) := ok__law_covers B Sy F__law_covers (glo_ok X G (c.d.fact 50 rfl))
  have h__law_wrong : Ok__law_wrong P w K mg base (tabT K) (gmK P w K mg base) := ok__law_wrong B Sy F__law_wrong h__law_draw (glo_ok X G (c.d.fact 51 rfl))
  have h__law_case : Ok__law_case P w K mg base (tabT K) (gmK P w K mg base) := ok__law_case B Sy F__law_case h__law_plain_web h__law_upon h__law_pick h__law_wrong h_is_web_map h__law_is_way h_is_cover h__law_covers h_behind_web_map (glo_ok X G (c.d.fact 52 rfl))
  have h__law_copies_hold : Ok__law_copies_hold P w K mg base (tabT K) (gmK P w K mg base) := ok__law_copies_hold B Sy F__law_copies_hold h__law_plain_web h__law_draw h__law_shuffled h_is_cover (glo_ok X G (c.d.fact 53 rfl))
  exact ⟨fd_law, F_law, ok_law B Sy F_law ⟨_, _, F__law_pen, (glo_ok X G (c.d.fact 30 rfl))⟩ h_Rooms h__law_copies_hold h__law_case h__law_field h__law_rooms h_web_of h__law_web_by h__law_pick h_is_web_map h_is_cover h_behind_web_map h__law_are_due ⟨_, _, code_of (p := ("law", none)) F_law, TB _ (List.mem_map_of_mem (f := cT K) (show (("law", none) : Defn) ∈ tf by simp [tf])), by simp [tabT], uniqT x4 0 (by rfl)⟩ (fun _ _ h => h) law_pure⟩
end
theorem facts {P : Program} {w : World} {K : PySem.W.Frag} {hp : Heap} {mg : Str → Option Value} {f : Addr} (X : K.In hp) (G : hp.Ns mainGlobals mg) (hfa : mg ("law" : Str) = some (.ref f)) (c : SaysY fa fn tf exB hp K) :
    ∃ fd : FuncData, (∀ (s : Shared) (v : Value), BindsTo s fd ⟨[v], []⟩ [("script", v)]) ∧ ∀ base : Heap, K.In base → base.Ns mainGlobals mg → (∀ p ∈ tf.map (cT K), LamX.TabB base mg p.1 p.2) → Gd.FnG P w K mg base (L2.CX P w) 45 f fd ["script"] (spLaw K (tabT K)) := by
  obtain ⟨fd, F⟩ := c.d.def_ 54 rfl
  have e := hfa.symm.trans (glo_ok X G (c.d.fact 54 rfl))
  cases e
  have b := FunD.bindsA (ps := ["script"]) F fun _ _ _ _ _ _ us hl => match us, hl with | [_], _ => rfl
  refine ⟨fd, fun s v => b s [v] rfl, fun base KB GB TB => ?_⟩
  obtain ⟨fd2, F2, h⟩ := al_of (P := P) (w := w) X G c KB GB TB
  obtain ⟨_, _, _, _, _, _, _, _, _, _, rfl, lk, _⟩ := F.ex
  obtain ⟨_, _, _, _, _, _, _, _, _, _, rfl, lk2, _⟩ := F2.ex
  have e := lk.symm.trans lk2
  cases e
  exact h
end K74
open PySem PySem.W PySem.Calls PyProof.Rows
theorem PySem.Challenge.cw_webrooms_k74_maps_of_webs_holds : PySem.Challenge.rw_webrooms_k74_maps_of_webs.Holds := by
  w_on; o_law
  refine HandSHeadRun.head_imp (r := OpenLaw.row PySem.Challenge.rw_webrooms_k74_maps_of_webs) (q := view (OpenLaw.row PySem.Challenge.rw_webrooms_k74_maps_of_webs).prog [0, 80]) (H := K74h.hk) (ob := K74h.ob) (M := 60000) (loose := K74h.loose) (d := HandSHeadRun.topDef (OpenLaw.row PySem.Challenge.rw_webrooms_k74_maps_of_webs).prog 80) (kwd := []) K74h.ob_eq
    K74h.run (by kernel_rfl) (by kernel_rfl) (by kernel_rfl) (by rfl) (by first | assumption | decide +kernel) (by decide +kernel) ⟨rfl, rfl, rfl, rfl, rfl, by decide +kernel⟩ ?hw ?hc
  case hw => w_witness2
  case hc =>
    refine Gd.walk_ofTG (l := PySem.Challenge.rw_webrooms_k74_maps_of_webs) (n := 63) (k := 45) (x := "script") (CX := fun w => L2.CX (PySem.Challenge.rw_webrooms_k74_maps_of_webs).prog w) rfl (by decide) (by kernel_rfl) ⟨rfl, by decide, by decide⟩ ?F (fun _ _ _ _ _ ⟨_, _, _, _, _, _, _, _, _, _, _, _, f⟩ => f)
    intro w mg fa h Y G hmg0
    obtain ⟨K, KX, c⟩ := Y
    have hmg : mg ("law" : PySem.Str) = some (.ref fa) := by
      have e : (HandSHeadRun.topDef (OpenLaw.row PySem.Challenge.rw_webrooms_k74_maps_of_webs).prog 80).name = ("law" : PySem.Str) := by kernel_rfl
      rw [← e]
      exact hmg0
    obtain ⟨fd, hb, hF⟩ := K74.facts (P := (PySem.Challenge.rw_webrooms_k74_maps_of_webs).prog) (w := w) KX G hmg c
    refine ⟨K, fd, K74h.tf.map (He.cT K), K74.spLaw K (K74.tabT K), KX, c.tabs KX, hb, fun H a ns hl hT hS => ⟨a, ns, rfl, hS, by omega, Hx.tabG0 fun p hp => ?_, fun _ => rfl⟩, hF⟩
    have hm : (K74.tabT K).map Prod.fst = (K74h.tf.map (He.cT K)).map Prod.snd := rfl
    have hp2 : p.1 ∈ (K74h.tf.map (He.cT K)).map Prod.snd := by rw [← hm]; exact List.mem_map_of_mem hp
    obtain ⟨q, hq, e⟩ := List.mem_map.mp hp2
    rw [← e]
    exact hT q hq
