import PyProof.Rows.All
import Wide.All
import OpenK.AllK
import Wide.FinOn
import HandS.ForMost
import HandS.EndBits
import HandS.Wide
import HandS.WideBits
import HandS.IsInst
import HandS.MakeKwOnly
import PyProof.ReprRoads
import HandS.Walk
import HandS.OwnEq
import HandS.Property
import HandS.Conv
import HandS.TupAny
import HandS.FStr
import HandS.TupLen
import KE.GoesMore
import KE.GoesEnum
import HandS.NoneIn
import HandS.SortKw
import HandS.More
import KE.KSuper
import KE.KCallOwn
import HandS.ClsMeth
import HandS.Defaults
import HandS.Head0
import HandS.Head1
import HandS.Head2
import HandS.HeadHook1
import HandS.HeadHook2
import HandS.Style
import PySem.Challenge.RW_momentcalls_k04_statements_with_bodies
set_option Elab.async false
set_option linter.all false
set_option maxRecDepth 100000
set_option maxHeartbeats 4000000
namespace Mo
open PySem PySem.Spec PyProof.Rows L2

/-! ## Promises of defs that are run where no repr is under way -/
structure FnG (P : Program) (w : World) (K : PySem.W.Frag) (mg : Str → Option Value) (base : Heap) (CX : CXT) (k : Nat) (f : Addr) (fd : FuncData) (ps : List Str) (sp : Sp) : Prop where
  len : ∀ vs H Q E, sp vs H Q E → vs.length = ps.length
  go : ∀ (A : Around) (outer : List Env) (s : Shared) (H : Hp) (args : Args) (us : List Value) (vs : List V) (Q : VK) (E : XK), Room k A → A.guards = some [] →
    Env0 P w K mg base A outer s H → BindsTo s fd args (ps.zip us) → Vals vs us → sp vs H Q E → codeAny (model P w) A (.call (.ref f) args) (CR CX outer P w H s Q E) s

section
variable {P : Program} {w : World} {K : PySem.W.Frag} {mg : Str → Option Value} {base : Heap} {CX : CXT} {k : Nat} {f : Addr} {fd : FuncData} {ps : List Str} {sp : Sp}
theorem FnG.of (F : FnOk P w K mg base CX k f fd ps sp) : FnG P w K mg base CX k f fd ps sp :=
  ⟨F.len, fun A outer s H args us vs Q E hr _ e b v h => F.run A outer s H args us vs Q E hr e b v h⟩
theorem FnG.mono {j : Nat} (F : FnG P w K mg base CX j f fd ps sp) (h : j ≤ k) : FnG P w K mg base CX k f fd ps sp :=
  ⟨F.len, fun A outer s H args us vs Q E hr => F.go A outer s H args us vs Q E (hr.mono h)⟩
end

/-- a def's body, run where no repr is under way -/
theorem fnG_of {CX : CXT} {P : Program} {w : World} {K : PySem.W.Frag} {mg : Str → Option Value} {base : Heap} {k : Nat} {f : Addr} {name qual : Str} {params : Arguments} {body : List Stmt} {scope : Scope}
    {dV kV doc pm cdv ct oc : Value} {an od : Option Addr} {osl : Array (Option Value)} {N ps : List Str} {sp : Sp}
    (lk : K.lookup f = some ⟨oc, od, .func (PySem.W.fnOf name qual params body scope dV kV doc pm an cdv ct), osl⟩) (hcd : PySem.W.codeIn K cdv qual = true)
    (S : FnScope N ps scope) (len : ∀ vs H Q E, sp vs H Q E → vs.length = ps.length)
    (hb : ∀ (A : Around) (outer : List Env) (s : Shared) (H : Hp) (vs : List V) (Q : VK) (E : XK), Room k (A.deeper (envOfC qual scope s.heap.objs.size f cdv)) → A.guards = some [] → sp vs H Q E →
      ∃ t, PSs (cxOf CX P w K mg base N qual scope f cdv A outer s H E) body t ∧ t { nx := fun _ H' => Q .non H', rt := Q } (start N vs) H) :
    FnG P w K mg base CX (k + 1) f (PySem.W.fnOf name qual params body scope dV kV doc pm an cdv ct) ps sp := by
  refine ⟨len, ?_⟩
  intro A outer s H args us vs Q E hr hG env bnd rel wish
  have okK : K.In s.heap := env.mod.kin.keeps fun b o e => (env.bs b o e).1
  have okL : s.heap.NoLimit := env.mod.nolimit.keeps fun b o e => (env.bs b o e).1
  refine codeAny_call_function hr.depth (okK _ _ lk) rfl S.co S.gen rfl (PySem.W.codeRec_of okK hcd) (bnd _ _ _ _ ?_)
  refine wpAny_newFunctionEnv_cells S.kind ?kinds ?rest
  case kinds =>
    rintro ⟨n, v⟩ hy
    cases S.par n (List.of_mem_zip hy).1 with
    | inl q => exact Or.inl q
    | inr q => exact Or.inr ⟨q, PySem.W.cellsFrom_some _ _ _ (Or.inl q)⟩
  case rest =>
    intro env1 he s1 x
    cases he
    refine ⟨okL.keeps x.toInCall.keep, codeAny_func ?_⟩
    obtain ⟨t, ht, hq⟩ := hb A outer s H vs Q E (hr.deeper _) hG wish
    have J := inv_start (CX := CX) (E := E) (qual := qual) (f := f) (cd := cdv) S hr.hd env (len _ _ _ _ wish) rel x
    refine wpAny_mono (ht.run [] s1 (start N vs) H _ J hq) ?_ (fun e s' hs => hs)
    intro fl s' hs
    match fl, hs with
    | .ret u, ⟨v, σ', H', J', rv, q⟩ => exact ⟨v, H', J'.os, J'.bare, J'.base, J'.hok, rv, q⟩
    | .next, ⟨σ', H', J', q⟩ => exact ⟨V.non, H', J'.os, J'.bare, J'.base, J'.hok, rfl, q⟩
    | .brk, ⟨_, _, _, q⟩ => exact q.elim
    | .cont, ⟨_, _, _, q⟩ => exact q.elim

section
variable {P : Program} {w : World} {K : PySem.W.Frag} {mg : Str → Option Value} {base : Heap}
/-- a def that lets no exception out, run where no repr is under way -/
theorem Fun_okG {x qual : Str} {st : Stmt} {f : Addr} {fd : FuncData} {N ps : List Str} {k : Nat} {sp : Sp} (F : Fun K x qual st f fd) (S : FnScope N ps (defScope st)) (len : ∀ vs H Q E, sp vs H Q E → vs.length = ps.length)
    (hb : ∀ (cdv : Value) (A : Around) (outer : List Env) (s : Shared) (H : Hp) (vs : List V) (Q : VK) (E : XK), Room k (A.deeper (envOfC qual (defScope st) s.heap.objs.size f cdv)) → A.guards = some [] → sp vs H Q E →
      ∃ t, PSs (cxOf CX0 P w K mg base N qual (defScope st) f cdv A outer s H E).nox (defBody st) t ∧ t { nx := fun _ H' => Q .non H', rt := Q } (start N vs) H) :
    FnG P w K mg base CX0 (k + 1) f fd ps sp := by
  obtain ⟨oc, od, kV, doc, pm, an, cdv, ct, osl, rfl, lk, hcd⟩ := F.ex
  refine fnG_of lk hcd S len ?_
  intro A outer s H vs Q E hr hG hsp
  have ⟨t, h, q⟩ := hb cdv A outer s H vs Q E hr hG hsp
  exact ⟨t, h.nox, q⟩
end

section
variable {X : Cx} {CX : CXT} {k : Nat} {f : Addr} {fd : FuncData} {ps : List Str} {sp : Sp} {dvs : List V} {ds : List Value} {E : XK} {x : Str} {p pos : Pos} {e : Expr} {es : List Expr} {t tk : TA}
theorem run_fnG {pins : List (Addr × Obj)} {σ : L2.St} {H : Hp} {s : Shared} {Q : VK} {args : Args} {us : List Value} {vs : List V} (F : FnG X.prog X.w X.K X.mg X.base CX k f fd ps sp) (hr : Room k X.A) (hG : X.A.guards = some [])
    (hx : Passes CX X E) (I : Inv X pins σ H s) (hb : BindsTo s fd args (ps.zip us)) (r : Vals vs us) (h : sp vs H Q E) : codeAny (model X.prog X.w) X.A (.call (.ref f) args) (fun r s' => match r with
      | .ok (.ret u) => EP X pins σ Q u s'
      | .ok _ => False
      | .error e => X.xe e s') s := by
  refine codeAny_mono (F.go X.A X.stack s H args us vs Q E hr hG I.env0 hb r h) ?_
  intro r s' hq
  match r, hq with
  | .error e, hq => exact hx pins σ H s e s' I hq
  | .ok (.ret u), hq => exact I.after hq
  | .ok .next, hq => exact hq.elim
  | .ok .brk, hq => exact hq.elim
  | .ok .cont, hq => exact hq.elim
theorem call_fnG {pins : List (Addr × Obj)} {σ : L2.St} {H : Hp} {s : Shared} {Q : VK} {us : List Value} {vs : List V} (F : FnG X.prog X.w X.K X.mg X.base CX k f fd ps sp) (hr : Room k X.A) (hG : X.A.guards = some []) (hb : Binds X.K fd ps ds)
    (hd : Vals dvs ds) (hx : Passes CX X E) (I : Inv X pins σ H s) (r : Vals vs us) (h : sp (vs ++ dvs) H Q E) : wpAny (model X.prog X.w) X.A (call (.ref f) us) (EP X pins σ Q) X.xe s := by
  have r2 : Vals (vs ++ dvs) (us ++ ds) := r.append hd
  have hl := r2.length
  rw [F.len _ _ _ _ h] at hl
  refine wpAny_call (codeAny_mono (run_fnG F hr hG hx I (hb s us I.kIn hl.symm) r2 h) ?_)
  intro r s' hq
  match r, hq with
  | .error e, hq => exact hq
  | .ok (.ret u), hq => exact hq
  | .ok .next, hq => exact hq.elim
  | .ok .brk, hq => exact hq.elim
  | .ok .cont, hq => exact hq.elim
/-- f(e, ..) -/
theorem pe_callG (F : FnG X.prog X.w X.K X.mg X.base CX k f fd ps sp) (hr : Room k X.A) (hG : X.A.guards = some []) (hg : Gl X x) (hm : X.mg x = some (.ref f)) (hk : PySem.W.keepIn X.K (.ref f) = true) (hb : Binds X.K fd ps ds) (hd : Vals dvs ds) (hx : Passes CX X E)
    (ha : PA X (e :: es) t) (hdb : (x == ("__debug__" : Str)) = false := by decide) (he : starEach (e :: es) X.env = (false, eval e X.env) :: starEach es X.env := by rfl)
    (hpl : (backTo pos (starEach es X.env)).any (·.1) = false := by rfl) : PE X (.Call (.Name x p) (e :: es) [] pos) (tCall sp dvs E t) := by
  constructor
  intro pins s σ H Q I h
  apply wpAny_Call_Name_kw
  apply ld_glob I hg hm _ hdb
  apply PySem.W.callWith_K (h₀ := X.base) I.ok.mod.kin hk _ he hpl
  apply thn (ha.run pos pins s σ H _ I h)
  rintro us s1 ⟨vs, H1, I1, r, q⟩
  exact ⟨I1.kIn, call_fnG F hr hG hb hd hx I1 r q⟩
variable {ks : List Str} {kws : List Keyword} {g : List Value → List Value → List Value} {gV : List V → List V → List V}
/-- f(k = v, ..) without positional arguments -/
theorem pe_callK0 (F : FnOk X.prog X.w X.K X.mg X.base CX k f fd ps sp) (hr : Room k X.A) (hg : Gl X x) (hm : X.mg x = some (.ref f)) (hk : PySem.W.keepIn X.K (.ref f) = true) (hb : KBinds X.K fd ps ks g gV) (hx : Passes CX X E) (hkw : PK X kws tk)
    (hall : (backToKw pos (keywordEach kws X.env)).all (·.1.isSome) = true := by rfl) (hks : (backToKw pos (keywordEach kws X.env)).filterMap (·.1) = ks := by rfl) (hdb : (x == ("__debug__" : Str)) = false := by decide)
    (hpl : ((backTo pos (starEach [] X.env)).any (·.1) || (backToKw pos (keywordEach kws X.env)).any (·.1.isNone)) = false := by rfl) :
    PE X (.Call (.Name x p) [] kws pos) (tCallK sp gV E tNil tk) := by
  constructor
  intro pins s σ H Q I h
  apply wpAny_Call_Name_kw
  apply ld_glob I hg hm _ hdb
  apply PySem.W.callWith_KW0 (h₀ := X.base) I.ok.mod.kin hk hall _ hpl
  apply thn (hkw.run pos pins s σ H _ I h)
  rintro ws s2 ⟨zs, H2, I2, rz, q2⟩
  refine ⟨I2.kIn, ?_⟩
  rw [hks]
  exact run_fnk (us := []) (vs := []) F hr hb hx I2 .nil rz q2
end

/-! ## repr of data -/
section
variable {X : Cx}
/-- what repr asks of a datum, and the text that it gives -/
def rRepr (K : PySem.W.Frag) : List V → Hp → VK → Prop := fun xs H Q => ∃ (a : Addr) (d : PyData), xs = [.ref a] ∧ Dp K H (.ref a) d ∧ d.showable = true ∧ d.hasDict = false ∧ d.depth ≤ 60 ∧ d.shown.length ≤ sizeLine ∧ Q (.str d.shown) H
theorem call_repr {k : Nat} (hr : Room k X.A) (hG : X.A.guards = some []) : CallR X (.builtin "repr") (rRepr X.K) := by
  intro pins s σ H xs us Q I r h
  obtain ⟨a, d, rfl, hd, h1, h2, h3, h4, q⟩ := h
  obtain ⟨u, rfl, ru⟩ : ∃ u, us = [u] ∧ RelV (.ref a) u := by
    cases r with
    | cons r1 r2 =>
      cases r2
      exact ⟨_, rfl, r1⟩
  cases ru
  obtain ⟨as, rd⟩ := Dp.reads I d _ _ hd rfl
  have hu := hr.un
  refine repr_of_reads' rd h1 (fun z => ?_) hG (by omega) (fun b o e => e) (fun h' u tk hk => ?_) h4
  · rw [h2] at z
    cases z
  · exact ⟨.str d.shown, H, I.kept hk, ⟨u, rfl⟩, q⟩
end
end Mo

/-! ## The law's own call, its promise run where no repr is under way -/
namespace Mo
open PySem PySem.Spec PyProof.Rows L2
theorem law_coreG {P : Program} {w : World} {K : PySem.W.Frag} {mg mb : Str → Option Value} {k : Nat} {fa a : Addr} {fd : FuncData} {x : Str} {sp : Sp} {s1 : Shared} {vs : List Value} {ns : List Int} {H : Hp}
    (KX : K.In s1.heap) (gl : s1.heap.Ns mainGlobals mg) (bl : s1.heap.Ns builtinsNs mb) (bb : ∀ x : Str, x ≠ "__name__" → mb x = bootBuiltins x) (lim : s1.heap.NoLimit) (gens : s1.gens = #[])
    (obj : s1.heap.get? a = some { cls := .type "list", data := .seq vs.toArray }) (hr : Room k callerA)
    (F : ∀ base : Heap, K.In base → base.Ns mainGlobals mg → FnG P w K mg base CX0 k fa fd [x] sp) (hbind : ∀ (s : Shared) (u : Value), BindsTo s fd ⟨[u], []⟩ [(x, u)])
    (only : Only H) (wish : sp [.ref a] H (fun v _ => v = .bl true) fun _ _ _ => False) (ok : HOk P w H s1.heap) (hA : ∀ b, H b ≠ none → b = a) (hK : H a ≠ none → K.lookup a = none) :
    codeAny (model P w) callerA (.call (.ref fa) ⟨[.ref a], []⟩) (fun r s' => r = .ok (.ret (.bool true)) ∧ OldK s1.heap s'.heap ∧ s'.os = s1.os ∧ AllBare s'.gens) s1 := by
  have free : ∀ {b : Addr} {o : Obj} {es : Array DictEntry} {ep : Nat}, s1.heap.get? b = some o → o.data = .dict es ep → H b = none := by
    intro b o es ep e d
    refine Classical.byContradiction fun n => ?_
    cases hA b n
    rw [obj] at e
    cases e
    cases (show Data.seq vs.toArray _ = Data.dict es ep from d)
  have names : ∀ {b : Addr} {m : Str → Option Value}, s1.heap.Ns b m → (hidT s1.heap H).Ns b m := by
    rintro b m ⟨o, es, ep, e, d, r⟩
    exact ⟨o, es, ep, hidT_get e (free e d), d, r⟩
  have kb : K.In (hidT s1.heap H) := by
    intro b o e
    refine hidT_get (KX b o e) (Classical.byContradiction fun n => ?_)
    cases hA b n
    rw [hK n] at e
    cases e
  have md : Mod K mg (hidT s1.heap H) := by
    obtain ⟨mc, l1, l2⟩ := lim
    exact ⟨kb, names gl, ⟨mb, names bl, bb⟩, ⟨mc, names l1, l2⟩⟩
  have env : Env0 P w K mg (hidT s1.heap H) callerA [] s1 H :=
    ⟨rfl, md, fun b o e => of_hidT e, Nat.le_of_eq (hidT_size _ _), trivial, fun b hb => absurd (show b ∈ ([] : List Addr) from hb) List.not_mem_nil, ok, .of_eq gens⟩
  refine codeAny_mono ((F _ kb (names gl)).go callerA [] s1 H ⟨[.ref a], []⟩ [.ref a] [.ref a] _ _ hr rfl env (hbind s1 (.ref a)) (.cons rfl .nil) wish) ?_
  intro r s' h
  match r, h with
  | .error e, h => exact h.elim
  | .ok .next, h => exact h.elim
  | .ok .brk, h => exact h.elim
  | .ok .cont, h => exact h.elim
  | .ok (.ret u), ⟨v, H', os, bare, un, ok', rv, q⟩ =>
    cases (show v = .bl true from q)
    cases (show u = Value.bool true from rv)
    refine ⟨rfl, OldK.of_keep ?_, os, bare⟩
    intro b o e
    cases z : H b with
    | none => exact un.keep b o e z (fun y => absurd (show b ∈ ([] : List Addr) from y) List.not_mem_nil) List.not_mem_nil
    | some u =>
      cases only b with
      | inl y =>
        rw [z] at y
        cases y
      | inr y =>
        obtain ⟨ob, xs, y⟩ := y
        have e1 := (ok b _ y).1
        have e2 := (ok' b _ (un.frzs b ob _ y)).1
        rw [e] at e1
        cases e1
        exact e2
theorem law_callG {P : Program} {w : World} {K : PySem.W.Frag} {mg mb : Str → Option Value} {k : Nat} {fa a : Addr} {fd : FuncData} {x : Str} {sp : Sp} {s1 : Shared} {vs : List Value} {ns : List Int}
    (KX : K.In s1.heap) (gl : s1.heap.Ns mainGlobals mg) (bl : s1.heap.Ns builtinsNs mb) (bb : ∀ x : Str, x ≠ "__name__" → mb x = bootBuiltins x) (lim : s1.heap.NoLimit) (gens : s1.gens = #[])
    (obj : s1.heap.get? a = some { cls := .type "list", data := .seq vs.toArray }) (hi : IntsAre vs ns) (hl : ns.length ≤ sizeLine) (hr : Room k callerA)
    (F : ∀ base : Heap, K.In base → base.Ns mainGlobals mg → FnG P w K mg base CX0 k fa fd [x] sp) (hbind : ∀ (s : Shared) (u : Value), BindsTo s fd ⟨[u], []⟩ [(x, u)])
    (wish : ∀ H : Hp, Only H → SqL K H a (ns.map V.int) → sp [.ref a] H (fun v _ => v = .bl true) fun _ _ _ => False) :
    codeAny (model P w) callerA (.call (.ref fa) ⟨[.ref a], []⟩) (fun r s' => r = .ok (.ret (.bool true)) ∧ OldK s1.heap s'.heap ∧ s'.os = s1.os ∧ AllBare s'.gens) s1 := by
  have rv := vals_ints hi
  have lenV := hi.length
  by_cases hk : K.lookup a = none
  · let H : Hp := upd (fun _ => none) a (.frz { cls := .type "list", data := .seq vs.toArray } (.lst (ns.map V.int)))
    have at1 : H a = some (.frz { cls := .type "list", data := .seq vs.toArray } (.lst (ns.map V.int))) := upd_same
    have at2 : ∀ b, b ≠ a → H b = none := fun b hb => upd_ne hb
    refine law_coreG (H := H) (ns := ns) KX gl bl bb lim gens obj hr F hbind ?_ ?_ ?_ ?_ (fun _ => hk)
    · intro b
      by_cases hb : b = a
      · cases hb
        exact Or.inr ⟨_, _, at1⟩
      · exact Or.inl (at2 b hb)
    · refine wish H ?_ (Or.inl (Or.inr ⟨_, at1⟩))
      intro b
      by_cases hb : b = a
      · cases hb
        exact Or.inr ⟨_, _, at1⟩
      · exact Or.inl (at2 b hb)
    · intro b u e
      by_cases hb : b = a
      · cases hb
        rw [at1] at e
        cases e
        exact ⟨obj, by rw [List.length_map]; exact hl, vs, _, rv, obj⟩
      · rw [at2 b hb] at e
        cases e
    · intro b n
      exact Classical.byContradiction fun hb => n (at2 b hb)
  · obtain ⟨o, hk⟩ := Option.ne_none_iff_exists'.mp hk
    have e := KX a o hk
    rw [obj] at e
    cases e
    refine law_coreG (H := fun _ => none) (ns := ns) KX gl bl bb lim gens obj hr F hbind (fun _ => Or.inl rfl) (wish _ (fun _ => Or.inl rfl) ?_) ?_ (fun b n => (n rfl).elim) (fun n => (n rfl).elim)
    · exact Or.inr ⟨_, vs.toArray, _, hk, rfl, rfl, rfl, by rw [List.size_toArray, lenV]; exact hl, by simpa using rv⟩
    · intro b u z
      cases z
/-- the goal that k_head leaves, from the law's promise; the script's bits told -/
theorem walk_G {l : PySem.W.OpenLaw} {n k : Nat} {q : Program} {loose : List Str} {XP : (Str → Option Value) → Heap → Prop} {YP : World → Heap → Prop} {d : DefRec} {K : Params → PySem.W.Frag} {sp : World → Sp} {x : Str}
    (hn : l.most = some n) (hn2 : n ≤ sizeLine) (hdf : d.params.defaults = []) (hr : Room k callerA) (hY : ∀ (w : World) (h : Heap), YP w h → (K w.params).In h)
    (F : ∀ (w : World) (mg : Str → Option Value) (fa : Addr) (h : Heap), (K w.params).In h → h.Ns mainGlobals mg → mg d.name = some (.ref fa) → ∃ fd : FuncData, (∀ (s : Shared) (u : Value), BindsTo s fd ⟨[u], []⟩ [(x, u)]) ∧
        ∀ base : Heap, (K w.params).In base → base.Ns mainGlobals mg → FnG l.prog w (K w.params) mg base CX0 k fa fd [x] (sp w))
    (wish : ∀ (w : World) (H : Hp) (a : Addr) (ns : List Int), ns.length ≤ n → (∀ z ∈ ns, Builtin.Int.intBits z ≤ 1048576) → Only H → SqL (K w.params) H a (ns.map V.int) → sp w [.ref a] H (fun v _ => v = .bl true) fun _ _ _ => False) :
    PySem.W.WalkO q loose XP YP l.row.toRowW d [] (fun f vs => PySem.call f vs) := by
  apply Att.attach_callB hn hdf
  intro w s0 s1 mg mb fa o pm cd doc a vs ns G Y _ _ _ hmg hobj hints hlen hbits hg
  have KX := hY w _ Y
  obtain ⟨fd, hb, hF⟩ := F w mg fa _ KX G.T.g hmg
  exact law_callG KX G.T.g G.T.b G.T.builtins G.T.nolimit hg hobj hints (Nat.le_trans hlen hn2) hr hF hb fun H hO hS => wish w H a ns hlen hbits hO hS
end Mo
set_option Elab.async false
set_option linter.all false
set_option maxRecDepth 100000
set_option maxHeartbeats 4000000
namespace Mo
open PySem PySem.Spec PyProof.Rows L2

/-! ## all arguments by name -/
def gK {α : Type} (us ws : List α) : List α := match us with | [] => ws | _ :: _ => []
theorem kb_all {K : PySem.W.Frag} {fd : FuncData} {ps ks : List Str} (hp : ps ≠ []) (h : ∀ us : List Value, us.length = ps.length → bindArgs fd ⟨[], ks.zip us⟩ = pure (ps.zip us)) : KBinds K fd ps ks gK gK := by
  constructor
  · intro s us ws _ hl
    cases us with
    | nil => exact .of_eq (h ws hl)
    | cons a l =>
      exfalso
      apply hp
      exact List.length_eq_zero_iff.mp hl.symm
  · intro vs us zs ws r1 r2
    cases r1 with
    | nil => exact r2
    | cons _ _ => exact .nil
theorem Fun_kb {K : PySem.W.Frag} {x qual : Str} {st : Stmt} {f : Addr} {fd : FuncData} {ps ks : List Str} (F : Fun K x qual st f fd) (hp : ps ≠ [])
    (h : ∀ (kV doc pm : Value) (an : Option Addr) (cdv ct : Value) (us : List Value), us.length = ps.length → bindArgs (PySem.W.fnOf x qual (defArgs st) (defBody st) (defScope st) .none kV doc pm an cdv ct) ⟨[], ks.zip us⟩ = pure (ps.zip us)) :
    KBinds K fd ps ks gK gK := by
  obtain ⟨oc, od, kV, doc, pm, an, cdv, ct, osl, rfl, lk, hcd⟩ := F.ex
  exact kb_all hp (h kV doc pm an cdv ct)

/-! ## the kinds of things, isinstance -/
inductive Ty7 where
  | non | bl | int | str | tup | lst | dic
  deriving DecidableEq
def Ty7.nm : Ty7 → String
  | .non => "NoneType" | .bl => "bool" | .int => "int" | .str => "str" | .tup => "tuple" | .lst => "list" | .dic => "dict"
def Ty7.isi : Ty7 → Ty7 → Bool
  | .non, .non => true | .bl, .bl => true | .bl, .int => true | .int, .int => true | .str, .str => true | .tup, .tup => true | .lst, .lst => true | .dic, .dic => true | _, _ => false
theorem kit7 {K : PySem.W.Frag} (a b : Ty7) (hb : b ≠ .non) : PySem.W.kitOne K (.type a.nm) (.type b.nm) = some (a.isi b) := by
  cases b
  case non => exact absurd rfl hb
  all_goals (cases a <;> exact kit_ty (by decide +kernel))
/-- every sign below 128 -/
def Asc (z : Str) : Prop := ∀ c ∈ z.cps.toList, c < 128
theorem cps_app (x y : Str) : (x ++ y).cps.toList = x.cps.toList ++ y.cps.toList := PySem.W.KT.app_list x y
theorem Asc.app {x y : Str} (hx : Asc x) (hy : Asc y) : Asc (x ++ y) := by
  intro c hc
  rw [cps_app] at hc
  exact (List.mem_append.mp hc).elim (hx c) (hy c)
theorem Asc.by {x : Str} (h : x.cps.toList.all (fun c => decide (c < 128)) = true) : Asc x := fun c hc => of_decide_eq_true (List.all_eq_true.mp h c hc)
theorem Asc.one {z : Str} (h : Asc z) {c : Nat} (hc : c ∈ z.cps.toList) : Asc ⟨#[c]⟩ := by
  intro d hd
  have : d = c := by simpa using hd
  rw [this]
  exact h c hc
theorem Asc.num (i : Int) : Asc (Str.ofString (toString i)) := by
  intro c hc
  rw [Str.ofString_eq_toList] at hc
  obtain ⟨d, hd, rfl⟩ := List.mem_map.mp hc
  exact int_ascii i d hd
theorem Asc.ok {z : Str} (h : Asc z) : PyData.strOk z = true := by
  unfold PyData.strOk
  rw [Array.all_eq_true_iff_forall_mem]
  intro c hc
  have := h c (by simpa using hc)
  exact decide_eq_true (by omega)
theorem dp_strs {K : PySem.W.Frag} {H : Hp} : ∀ l : List Str, DpAll K H (l.map V.str) (l.map PyData.str)
  | [] => .nil
  | y :: l => .cons (.str y) (dp_strs l)
theorem dp_bls {K : PySem.W.Frag} {H : Hp} : ∀ l : List Bool, DpAll K H (l.map V.bl) (l.map PyData.bool)
  | [] => .nil
  | y :: l => .cons (.bl y) (dp_bls l)
theorem lay_strs : ∀ {l : List Str}, (∀ y ∈ l, Asc y) → PyData.canLayAll0 (l.map PyData.str) = true ∧ PyData.depthAll (l.map PyData.str) = 0
  | [], _ => ⟨rfl, rfl⟩
  | y :: l, h => by
    obtain ⟨h1, h2⟩ := lay_strs fun z hz => h z (List.mem_cons_of_mem _ hz)
    constructor
    · show (PyData.strOk y && PyData.canLayAll0 (l.map PyData.str)) = true
      rw [(h y List.mem_cons_self).ok, h1]
      rfl
    · show max 0 (PyData.depthAll (l.map PyData.str)) = 0
      rw [h2]
      rfl
theorem shaped_strs {l : List Str} (h : ∀ y ∈ l, Asc y) : SeqAt.shaped (.list (l.map PyData.str)) = true := by
  obtain ⟨h1, h2⟩ := lay_strs h
  unfold SeqAt.shaped
  rw [Bool.and_eq_true]
  refine ⟨h1, decide_eq_true ?_⟩
  show PyData.depthAll (l.map PyData.str) + 1 ≤ 64
  omega
/-- a thing of one of the seven kinds; a text of at most 5000 plain signs -/
inductive Th (H : Hp) : V → Ty7 → Prop where
  | non : Th H .non .non
  | bl (b : Bool) : Th H (.bl b) .bl
  | int (i : Int) : Th H (.int i) .int
  | str (z : Str) (h : z.length ≤ 5000) (a : Asc z) : Th H (.str z) .str
  | tup {a : Addr} {xs : List V} (h : H a = some (.tup xs)) : Th H (.ref a) .tup
  | lst {a : Addr} {xs : List V} (h : H a = some (.lst xs)) : Th H (.ref a) .lst
  | dK {a : Addr} {kvs : List (Key × V)} (h : H a = some (.dK kvs)) : Th H (.ref a) .dic
  | dT {a : Addr} {kvs : List (List Key × V)} (h : H a = some (.dT kvs)) : Th H (.ref a) .dic
theorem Th.ty {K : PySem.W.Frag} {H : Hp} {v : V} {n : Ty7} (t : Th H v n) : TyX K H v (.type n.nm) := by
  cases t with
  | non => exact .base .non
  | bl b => exact .base (.bl b)
  | int i => exact .base (.int i)
  | str z _ _ => exact .base (.str z)
  | tup h => exact .base (.tup h)
  | lst h => exact .base (.lst h)
  | dK h => exact .base (.dK h)
  | dT h => exact .base (.dT h)
theorem Th.same {H H' : Hp} {v : V} {n : Ty7} (t : Th H v n) (e : Same H H') : Th H' v n := by
  cases t with
  | non => exact .non
  | bl b => exact .bl b
  | int i => exact .int i
  | str z h a => exact .str z h a
  | tup h => exact .tup (e _ _ h)
  | lst h => exact .lst (e _ _ h)
  | dK h => exact .dK (e _ _ h)
  | dT h => exact .dT (e _ _ h)
theorem same_new {H : Hp} {p : Addr} {o : HO} (h : H p = none) : Same H (upd H p o) := fun b u e => by
  rw [upd_ne (ne_of_none e h)]
  exact e
/-- isinstance(x, T) -/
theorem isi_ok {K : PySem.W.Frag} {H : Hp} {v : V} {n : Ty7} {Q : VK} (t : Th H v n) (c : Ty7) (hc : c ≠ .non) (q : Q (.bl (n.isi c)) H) : rIsi K [v, .ty c.nm] H Q :=
  ⟨v, .ty c.nm, .type n.nm, .type c.nm, n.isi c, rfl, .ty _, t.ty, kit7 n c hc, q⟩

/-- things of the seven kinds -/
def AllTh (H : Hp) (xs : List V) : Prop := ∀ x ∈ xs, ∃ n, Th H x n
theorem AllTh.nil (H : Hp) : AllTh H [] := fun _ h => (List.not_mem_nil h).elim
theorem AllTh.cons {H : Hp} {x : V} {xs : List V} {n : Ty7} (t : Th H x n) (h : AllTh H xs) : AllTh H (x :: xs) := by
  intro y hy
  cases List.mem_cons.mp hy with
  | inl e =>
    subst e
    exact ⟨n, t⟩
  | inr e => exact h y e
theorem AllTh.app {H : Hp} {xs ys : List V} (h : AllTh H xs) (k : AllTh H ys) : AllTh H (xs ++ ys) := fun y hy => (List.mem_append.mp hy).elim (h y) (k y)
theorem AllTh.same {H H' : Hp} {xs : List V} (h : AllTh H xs) (e : Same H H') : AllTh H' xs := fun y hy => let ⟨n, t⟩ := h y hy; ⟨n, t.same e⟩
theorem log_le {m : Int} {k : Nat} (h0 : 0 < k) (h : m.natAbs < 2 ^ k) (hk : k ≤ 1920) : m.natAbs.log2 < 1920 := Nat.lt_of_lt_of_le (PySem.Flt.log2_lt_of h0 h) hk
/-! ## names of the module -/
section
variable {X : Cx} {x : Str} {pos : Pos}
theorem pe_gS {z : Str} {t : Tok} (hm : X.mg x = some (.str z t)) (hg : Gl X x := by rfl) (hd : (x == ("__debug__" : Str)) = false := by decide) : PE X (.Name x pos) (tC (.str z)) := pe_glob hg hm ⟨_, rfl⟩ hd
theorem pe_gI {i : Int} {t : Tok} (hm : X.mg x = some (.int i t)) (hg : Gl X x := by rfl) (hd : (x == ("__debug__" : Str)) = false := by decide) : PE X (.Name x pos) (tC (.int i)) := pe_glob hg hm ⟨_, rfl⟩ hd
theorem pe_gR {a : Addr} (hm : X.mg x = some (.ref a)) (hg : Gl X x := by rfl) (hd : (x == ("__debug__" : Str)) = false := by decide) : PE X (.Name x pos) (tC (.ref a)) := pe_glob hg hm rfl hd
theorem pe_ty (T : String) (hm : X.mg x = none) (hv : bootBuiltins x = some (.type T) := by decide +kernel) (hg : Gl X x := by rfl) (hn : x ≠ "__name__" := by decide) (hd : (x == ("__debug__" : Str)) = false := by decide) : PE X (.Name x pos) (tC (.ty T)) := pe_bltn hg hm hv rfl hn hd
end
theorem inV_strs (z : Str) (l : List Str) : inV (.str z) (l.map V.str) = decide (z ∈ l) := by
  induction l with
  | nil => rfl
  | cons y l ih =>
    show ((y == z) || inV (.str z) (l.map V.str)) = _
    rw [ih]
    by_cases h : y = z
    · subst h
      simp
    · have h2 : ¬ z = y := fun e => h e.symm
      simp [h, h2]
theorem len5000 {n : Nat} (h : n ≤ 5000) : n ≤ sizeLine := Nat.le_trans h (by decide)
theorem lt5000 {n : Nat} (h : n < 5000) : n < sizeLine := Nat.lt_trans h (by decide)
theorem at_in {α : Type} {l : List α} {d : Int} (h0 : 0 ≤ d) (h1 : d < (l.length : Int)) : ∃ c, atI l d = some c ∧ c ∈ l := by
  obtain ⟨j, rfl⟩ := Int.eq_ofNat_of_zero_le h0
  have hj : j < l.length := by omega
  exact ⟨l[j], atI_nat (by simp [hj]), List.getElem_mem hj⟩
theorem Asc.cut {z : Str} (h : Asc z) (lo hi : Option Int) : Asc (cutS z lo hi) := by
  intro c hc
  refine h c ?_
  have hc : c ∈ ((z.cps.toList.drop (HT.sIx z.length 0 lo)).take (HT.sIx z.length z.length hi - HT.sIx z.length 0 lo)) := by
    have := hc
    simpa [cutS] using this
  exact List.mem_of_mem_drop (List.mem_of_mem_take hc)
theorem cut_two (z : Str) {a : Int} (h : 0 ≤ a) : (cutS z none (some a)).length + (cutS z (some a) none).length ≤ z.length := by
  have e : ∀ d, HT.sIx z.length d (some a) = min a.toNat z.length := fun d => if_neg (by omega)
  have e1 : (cutS z none (some a)).length = min (HT.sIx z.length z.length (some a) - 0) z.length := by
    show (((z.cps.toList.drop 0).take (HT.sIx z.length z.length (some a) - 0)).toArray).size = _
    rw [List.size_toArray, List.length_take, List.length_drop, Array.length_toList]
    rfl
  have e2 : (cutS z (some a) none).length = min (z.length - HT.sIx z.length 0 (some a)) (z.length - HT.sIx z.length 0 (some a)) := by
    show (((z.cps.toList.drop (HT.sIx z.length 0 (some a))).take (z.length - HT.sIx z.length 0 (some a))).toArray).size = _
    rw [List.size_toArray, List.length_take, List.length_drop, Array.length_toList]
    rfl
  rw [e1, e2, e, e]
  omega
theorem one_length (c : Nat) : (⟨#[c]⟩ : Str).length = 1 := rfl
theorem app_length (x y : Str) : (x ++ y).length = x.length + y.length := strLen_append x y
/-! ## the source of draws -/
def Src (H : Hp) (a : Addr) : Prop := ∃ x y c : Int, H a = some (.lst [.int x, .int y, .int c]) ∧ 0 ≤ x ∧ x ≤ 2147483587
/-- all that was known stays, but for what stands at a -/
def KeepBut (a : Addr) (H H' : Hp) : Prop := ∀ b o, b ≠ a → H b = some o → H' b = some o
theorem KeepBut.refl (a : Addr) (H : Hp) : KeepBut a H H := fun _ _ _ h => h
theorem KeepBut.trans {a : Addr} {H H1 H2 : Hp} (x : KeepBut a H H1) (y : KeepBut a H1 H2) : KeepBut a H H2 := fun b o n h => y b o n (x b o n h)
theorem KeepBut.of_same {a : Addr} {H H' : Hp} (e : Same H H') : KeepBut a H H' := fun b o _ h => e b o h
theorem KeepBut.upd (a : Addr) (H : Hp) (o : HO) : KeepBut a H (L2.upd H a o) := fun b u n h => by
  rw [upd_ne n]
  exact h
theorem Src.same {H H' : Hp} {a : Addr} (s : Src H a) (e : Same H H') : Src H' a := by
  obtain ⟨x, y, c, h, r⟩ := s
  exact ⟨x, y, c, e _ _ h, r⟩
/-- what a draw promises -/
def spTake : Sp := fun vs H Q _ => ∃ (a : Addr) (m : Int), vs = [.ref a, .int m] ∧ Src H a ∧ 0 < m ∧ m < 1073741824 ∧ ∀ (d : Int) (H' : Hp), 0 ≤ d → d < m → Src H' a → KeepBut a H H' → Q (.int d) H'
def spSource : Sp := fun vs H Q _ => ∃ n : Int, vs = [.int n] ∧ ∀ (p : Addr) (H' : Hp), H p = none → Same H H' → Src H' p → Q (.ref p) H'
def spNumber (K : PySem.W.Frag) : Sp := fun vs H Q _ => ∃ (a : Addr) (ns : List Int) (k : Int), vs = [.ref a, .int k] ∧ SqL K H a (ns.map V.int) ∧ (∀ z ∈ ns, Builtin.Int.intBits z ≤ 1048576) ∧ 0 ≤ k ∧ k ≤ 1000 ∧
  ∀ (n : Int) (H' : Hp), Same H H' → Q (.int n) H'
end Mo
set_option Elab.async false
set_option linter.all false
set_option maxRecDepth 100000
set_option maxHeartbeats 4000000
namespace Mo
open PySem PySem.Spec PyProof.Rows L2

/-- a tuple of the written part -/
theorem sqt_K {K : PySem.W.Frag} {H : Hp} {a : Addr} {dd : Option Addr} {vs : Array Value} {n : Nat} {sl : Array (Option Value)} {xs : List V} (h : K.lookup a = some ⟨.type "tuple", dd, .seq vs n, sl⟩) (hz : vs.size ≤ sizeLine) (r : Vals xs vs.toList) : SqT K H a xs :=
  .inr ⟨_, vs, n, h, rfl, rfl, hz, r⟩
theorem kit_of_sub {K : PySem.W.Frag} {C : Addr} {T : String} {b : Bool} (ci : PySem.W.isClsIn K C = true) (tc : PySem.W.typeIn K (.ref C) = some (.type "type")) (sb : PySem.W.subIn K (.type T) (.ref C) = some b) : PySem.W.kitOne K (.type T) (.ref C) = some b := by
  unfold PySem.W.kitOne
  rw [if_neg (show ¬ (Value.type T == Value.ref C) = true from Bool.false_ne_true)]
  show (if ((PySem.W.clsIn K C).isSome && PySem.W.typeIn K (.ref C) == some (.type "type")) = true then PySem.W.subIn K (.type T) (.ref C) else none) = some b
  rw [tc, show (PySem.W.clsIn K C).isSome = true from ci]
  exact sb
theorem kit_self {K : PySem.W.Frag} (v : Value) : PySem.W.kitOne K v v = some true := by
  unfold PySem.W.kitOne
  rw [if_pos (by simp)]
/-! ## a def called beneath a built-in of this frame -/
section
variable {X : Cx} {CX : CXT} {k : Nat} {f C : Addr} {fd : FuncData} {ps : List Str} {sp : Sp} {E : XK}
theorem run_under {pins : List (Addr × Obj)} {σ : L2.St} {H : Hp} {s : Shared} {Q : VK} {us : List Value} {vs : List V} {A : Around} (F : FnOk X.prog X.w X.K X.mg X.base CX k f fd ps sp) (hr : Room k A) (hfr : A.frames = X.A.frames)
    (hb : Binds X.K fd ps []) (hx : Passes CX X E) (I : Inv X pins σ H s) (r : Vals vs us) (h : sp vs H Q E) : wpAny (model X.prog X.w) A (call (.ref f) us) (EP X pins σ Q) X.xe s := by
  have hl := r.length
  rw [F.len _ _ _ _ h] at hl
  have e0 : Env0 X.prog X.w X.K X.mg X.base A X.stack s H := by
    have e := I.env0
    exact ⟨by rw [hfr]; exact e.frames, e.mod, e.bs, e.bsz, e.funs, e.frf, e.hok, e.bare⟩
  have hbs := hb s us I.kIn (by rw [List.append_nil]; exact hl.symm)
  rw [List.append_nil] at hbs
  refine wpAny_call (codeAny_mono (F.run A X.stack s H ⟨us, []⟩ us vs Q E hr e0 hbs r h) ?_)
  intro r s' hq
  match r, hq with
  | .error e, hq => exact hx pins σ H s e s' I hq
  | .ok (.ret u), hq => exact I.after hq
  | .ok .next, hq => exact hq.elim
  | .ok .brk, hq => exact hq.elim
  | .ok .cont, hq => exact hq.elim
/-- what is asked of a class's own special method -/
structure Spc (K : PySem.W.Frag) (C : Addr) (n : Str) (f : Addr) : Prop where
  at_ : PySem.W.findIn K (.ref C) n = some (some (.ref f))
  fn : PySem.W.isFn K (.ref f) = true
/-- repr(o) by the own __repr__ -/
theorem call_reprO (F : FnOk X.prog X.w X.K X.mg X.base CX k f fd ps sp) (hr : Room (k + 1) X.A) (S : Spc X.K C "__repr__" f) (hb : Binds X.K fd ps []) (hx : Passes CX X E) :
    CallR X (.builtin "repr") (fun xs H Q => ∃ a dx fs, xs = [.ref a] ∧ H a = some (.ins C dx fs) ∧ sp [.ref a] H (fun v H' => ∃ z : Str, v = .str z ∧ Q v H') E) := by
  intro pins s σ H xs us Q I r h
  obtain ⟨a, dx, fs, rfl, ha, h⟩ := h
  obtain ⟨u, rfl, ru⟩ := vals1 r
  cases ru
  obtain ⟨mA, J, _⟩ := ins_get I.hok ha
  obtain ⟨od, J, _⟩ := J.look
  obtain ⟨m, hF⟩ := I.fr
  have hu := hr.un
  refine PySem.W.repr_K (by show X.A.units + 1 < cLine; omega) hF I.ok.mod.kin J S.at_ S.fn ?_
  refine wpAny_mono (run_under (A := X.A.in1) (vs := [.ref a]) F hr.in1 rfl hb hx I (.cons rfl .nil) h) (fun v s' hv => ?_) fun _ _ e => e
  obtain ⟨v', H', I', rv, z, rfl, q⟩ := hv
  obtain ⟨t, rfl⟩ := rv
  exact ⟨.str z, H', I', ⟨t, rfl⟩, q⟩
/-- len(o) by the own __len__ -/
theorem call_lenO (F : FnOk X.prog X.w X.K X.mg X.base CX k f fd ps sp) (hr : Room (k + 1) X.A) (S : Spc X.K C "__len__" f) (hb : Binds X.K fd ps []) (hx : Passes CX X E) :
    CallR X (.builtin "len") (fun xs H Q => ∃ a dx fs, xs = [.ref a] ∧ H a = some (.ins C dx fs) ∧ sp [.ref a] H (fun v H' => ∃ n : Int, v = .int n ∧ (0 ≤ n ∧ n < 2 ^ 63) ∧ Q v H') E) := by
  intro pins s σ H xs us Q I r h
  obtain ⟨a, dx, fs, rfl, ha, h⟩ := h
  obtain ⟨u, rfl, ru⟩ := vals1 r
  cases ru
  obtain ⟨mA, J, _⟩ := ins_get I.hok ha
  obtain ⟨od, J, _⟩ := J.look
  obtain ⟨m, hF⟩ := I.fr
  refine PySem.W.len_K hF I.ok.mod.kin J S.at_ S.fn ?_
  refine wpAny_mono (run_under (A := X.A.in1) (vs := [.ref a]) F hr.in1 rfl hb hx I (.cons rfl .nil) h) (fun v s' hv => ?_) fun _ _ e => e
  obtain ⟨v', H', I', rv, n, rfl, hn, q⟩ := hv
  obtain ⟨t, rfl⟩ := rv
  exact ⟨hn, .int n, H', I'.tok _, ⟨_, rfl⟩, q⟩

/-- o == y by the own __eq__: what y is must be known -/
def rEqO (K : PySem.W.Frag) (C : Addr) (sp : Sp) (E : XK) (g : Bool → Bool) : R2 := fun x y H Q => ∃ a dx fs t, x = .ref a ∧ H a = some (.ins C dx fs) ∧ TyX K H y t ∧ PySem.W.notFirst K C t = true ∧
  sp [x, y] H (fun v H' => ∃ b, v = .bl b ∧ Q (.bl (g b)) H') E
theorem op_eqO (F : FnOk X.prog X.w X.K X.mg X.base CX k f fd ps sp) (hr : Room k X.A) (S : Spc X.K C "__eq__" f) (hb : Binds X.K fd ps []) (hx : Passes CX X E) : OpR X (compareOp .Eq) (rEqO X.K C sp E id) := by
  intro pins s σ H x y v u Q I rx ry h
  obtain ⟨a, dx, fs, t, rfl, ha, ty, hn, h⟩ := h
  cases rx
  obtain ⟨mA, J, _⟩ := ins_get I.hok ha
  obtain ⟨od, J, _⟩ := J.look
  obtain ⟨m, hF⟩ := I.fr
  obtain ⟨P, Z, p, _⟩ := kit_of I ry ty
  show wpAny (model X.prog X.w) X.A (richCompare .Eq (.ref a) u) (EP X pins σ Q) X.xe s
  refine PySem.W.cmp_K (op := .Eq) (tb := t) hr.units0 hF I.ok.mod.kin J (Z.ty _ _ I.kIn p) hn S.at_ S.fn ?_
  refine wpAny_mono (run_under (A := X.A) (vs := [.ref a, y]) F hr rfl hb hx I (.cons rfl (.cons ry .nil)) h) (fun v s' hv => ?_) fun _ _ e => e
  obtain ⟨v', H', I', rv, b, rfl, q⟩ := hv
  cases rv
  exact ⟨.bl b, H', I', rfl, q⟩
end
end Mo
namespace MoNe
open PySem PySem.W PySem.Calls PyProof.Rows
theorem ne_bind (self : Value) : bindSpecial (.builtin "object.__ne__") self = pure (.builtin "object.__ne__", [self]) :=
  (Slot.of (T := "object") (name := "__ne__") (owner := "object") (n := "__ne__") (by rw [typeLookup_type, builtinLookup_eq_fast]; kernel_rfl) (by decide +kernel) (by decide +kernel) (by decide +kernel)
    (by first | exact .inl (by decide +kernel) | exact .inr (by decide +kernel)) (by rw [isSubtype_type]; kernel_rfl)).bind self
section
variable {prog : Program} {w : World} {A : Around} {E : Value → Shared → Prop} {s : Shared} {K : Frag} {x C f : Addr} {ox : Obj} {od : Option Obj} {b tb : Value}
theorem ne_code {R : Result → Shared → Prop} (hu : A.units + 1 < cLine) (X : K.In s.heap) (I : InstAt s.heap x ox C od) (he : findIn K (.ref C) "__eq__" = some (some (.ref f))) (hf : isFn K (.ref f) = true) (hm : mroIn K C (.type "object") = some true)
    (h : wpAny (model prog w) A.in1 (call (.ref f) [.ref x, b]) (fun v s' => ∃ r, v = .bool r ∧ R (.ok (.ret (.bool (!r)))) s') (fun e s' => R (.error e) s') s) :
    codeAny (model prog w) A (.call (.builtin "object.__ne__") ⟨[.ref x, b], []⟩) R s := by
  have sub : Looks (model prog w) s.heap (isInstance (.ref x) (.type "object")) true := I.type.andThen (looks_mroIn X hm)
  obtain ⟨hp, g, d, t, os⟩ := s
  refine codeAny_call_builtin (by decide +kernel) PySem.F.cmpEntry_ne (@check_slot (model prog w) _ _ ⟨hp, g, d, t, os⟩ "object.__ne__" "object" "__ne__" (.ref x) [b] [] _ PySem.F.cmpKind_ne PySem.F.cmpSplit_ne sub (PySem.F.cmpArgs_ne _ _) ?_)
  have go : wpAny (model prog w) A.in1 (callSpecialIfBound? (.ref x) "__eq__" [b]) (fun v s' => ∃ r, v = some (.bool r) ∧ R (.ok (.ret (.bool (!r)))) s') (fun e s' => R (.error e) s') ⟨hp, g, d, t, os⟩ :=
    ifBound_K X I he hf (wpAny_mono h (fun v s' hv => let ⟨r, e, q⟩ := hv; ⟨r, by rw [e], q⟩) fun _ _ e => e)
  unfold Builtin.«object.__ne__»
  refine wpAny_bind (wpAny_pure ?_)
  refine wpAny_bind (wpAny_cRoomFor (by show A.units + 1 < cLine; omega) ?_)
  refine wpAny_bind (wpAny_mono go (fun v s' hv => ?_) fun _ _ e => e)
  obtain ⟨r, rfl, q⟩ := hv
  exact wpAny_bind (wpAny_pure (wpAny_pure q))
theorem ne_K {L : Addr} {h₀ : Heap} {m : Str → Option Value} {Q : Value → Shared → Prop} (hu : A.units + 1 < cLine) (F : Fr h₀ L s.heap m) (X₀ : K.In h₀) (I : InstAt s.heap x ox C od) (hb : Looks (model prog w) s.heap (typeOf b) tb) (hn : notFirst K C tb = true)
    (hs : findIn K (.ref C) "__ne__" = some (some (.builtin "object.__ne__"))) (he : findIn K (.ref C) "__eq__" = some (some (.ref f))) (hf : isFn K (.ref f) = true) (hm : mroIn K C (.type "object") = some true)
    (h : wpAny (model prog w) A.in1 (call (.ref f) [.ref x, b]) (fun v s' => ∃ r, v = .bool r ∧ Q (.bool (!r)) s') E s) : wpAny (model prog w) A (richCompare .NotEq (.ref x) b) Q E s := by
  have X := X₀.keeps F.keep
  have one : wpAny (model prog w) A (tryCompare (.ref x) "__ne__" b) (fun r s' => ∃ v, r = some v ∧ Q v s') E s := by
    unfold tryCompare
    have go : wpAny (model prog w) A (call (.builtin "object.__ne__") [.ref x, b]) (fun v s' => ∃ r, v = .bool r ∧ Q (.bool r) s') E s :=
      wpAny_call (ne_code hu X I he hf hm (wpAny_mono h (fun v s' hv => let ⟨r, e, q⟩ := hv; ⟨r, e, _, rfl, q⟩) fun _ _ e => e))
    have fin : wpAny (model prog w) A (call (.builtin "object.__ne__") ([.ref x] ++ [b]) >>= fun v => pure (some v)) (fun r s' => ∃ q, r = some (.bool q) ∧ Q (.bool q) s') E s :=
      wpAny_bind (wpAny_mono go (fun v s' hv => let ⟨r, e, q⟩ := hv; wpAny_pure ⟨r, by rw [e], q⟩) fun _ _ e => e)
    refine wpAny_bind (m := callSpecialIfBound? (.ref x) "__ne__" [b]) ?_
    refine wpAny_mono (Q := fun r s' => ∃ q, r = some (.bool q) ∧ Q (.bool q) s') ?_ (fun r s' hr => ?_) (fun _ _ e => e)
    · simp only [callSpecialIfBound?, bindSpecialIfBound?]
      refine wpAny_holding (wpAny_bind (wpAny_bind (wpAny_bind (I.type.here ((looks_findIn X hs).here ?_)))))
      refine wpAny_bind (wpAny_askSetting (wpAny_ite ?_))
      split
      · exact wpAny_bind (wpAny_of_eq (ne_bind _) (wpAny_pure (by exact fin)))
      · exact wpAny_tryCatch (wpAny_bind (wpAny_of_eq (ne_bind _) (wpAny_pure (by exact fin))))
    · obtain ⟨q, rfl, hq⟩ := hr
      exact wpAny_pure ⟨_, rfl, hq⟩
  unfold richCompare
  simp only [oneThing_ref]
  refine wpAny_holding (wpAny_bind (wpAny_cRoomFor (by omega) ?_))
  refine wpAny_bind (I.type.here (wpAny_bind (hb.here ?_)))
  have fin : ∀ r s', (∃ v, r = some v ∧ Q v s') → ∃ v, r = some v ∧ Q v s' := fun _ _ h => h
  split
  · rename_i q
    have e : subIn K tb (.ref C) = some false := by
      rcases Bool.or_eq_true_iff.mp hn with e | e
      · rw [beq_iff_eq.mp e] at q
        simp at q
      · exact beq_iff_eq.mp e
    refine wpAny_bind ((looks_subIn X e).here ?_)
    simp only [Bool.false_eq_true, if_false]
    refine wpAny_bind (wpAny_mono one ?_ fun _ _ e => e)
    rintro r s' ⟨v, rfl, hq⟩
    exact wpAny_pure hq
  · refine wpAny_bind (wpAny_pure ?_)
    simp only [Bool.false_eq_true, if_false]
    refine wpAny_bind (wpAny_mono one ?_ fun _ _ e => e)
    rintro r s' ⟨v, rfl, hq⟩
    exact wpAny_pure hq
end
end MoNe
namespace Mo
open PySem PySem.Spec PyProof.Rows L2
section
variable {X : Cx} {CX : CXT} {k : Nat} {f C : Addr} {fd : FuncData} {ps : List Str} {sp : Sp} {E : XK}
/-- o != y: by the own __eq__, turned -/
theorem op_neO (F : FnOk X.prog X.w X.K X.mg X.base CX k f fd ps sp) (hr : Room (k + 1) X.A) (S : Spc X.K C "__eq__" f) (hne : PySem.W.findIn X.K (.ref C) "__ne__" = some (some (.builtin "object.__ne__"))) (hm : PySem.W.mroIn X.K C (.type "object") = some true)
    (hb : Binds X.K fd ps []) (hx : Passes CX X E) : OpR X (compareOp .NotEq) (rEqO X.K C sp E not) := by
  intro pins s σ H x y v u Q I rx ry h
  obtain ⟨a, dx, fs, t, rfl, ha, ty, hn, h⟩ := h
  cases rx
  obtain ⟨mA, J, _⟩ := ins_get I.hok ha
  obtain ⟨od, J, _⟩ := J.look
  obtain ⟨m, hF⟩ := I.fr
  obtain ⟨P, Z, p, _⟩ := kit_of I ry ty
  have hu := hr.un
  show wpAny (model X.prog X.w) X.A (richCompare .NotEq (.ref a) u) (EP X pins σ Q) X.xe s
  refine MoNe.ne_K (tb := t) (by omega) hF I.ok.mod.kin J (Z.ty _ _ I.kIn p) hn hne S.at_ S.fn hm ?_
  refine wpAny_mono (run_under (A := X.A.in1) (vs := [.ref a, y]) F hr.in1 rfl hb hx I (.cons rfl (.cons ry .nil)) h) (fun v s' hv => ?_) fun _ _ e => e
  obtain ⟨v', H', I', rv, b, rfl, q⟩ := hv
  cases rv
  exact ⟨b, rfl, .bl (!b), H', I', rfl, q⟩
/-- t.count(x), data -/
theorem mt_tcount (hu : X.A.units + 66 < cLine) : MtR X "tuple.count" (fun x xs H Q => ∃ (a : Addr) (y : V) (d : PyData) (ds : List PyData) (zs : List V), x = V.ref a ∧ xs = [y] ∧ SqT X.K H a zs ∧ DpAll X.K H zs ds ∧ Dp X.K H y d ∧
    PyData.canLayAll0 ds = true ∧ SeqAt.shaped d = true ∧ Q (.int (ds.countP fun z => PyData.eqv z d : Nat)) H) := by
  intro pins s σ H x xs v us Q I rx rs h
  obtain ⟨a, y, d, ds, zs, rfl, rfl, hq, hz, hd, sd, se, q⟩ := h
  cases rx
  obtain ⟨u, rfl, ru⟩ := vals1 rs
  obtain ⟨its, r, pl, _⟩ := I.tuple hq
  obtain ⟨⟨cls, dd, dt, sl⟩, ho, hc, n, hdt⟩ := pl
  simp only at hc hdt
  subst hc
  subst hdt
  obtain ⟨as, r1⟩ := Dp.readsAll I ds zs its hz r
  obtain ⟨bs, r2⟩ := Dp.reads I d y u hd ru
  have e1 : (its.toArray.toList.countP fun y => PyData.eqv (SeqAt.readOf s.heap y) d) = ds.countP fun z => PyData.eqv z d := by
    rw [← SeqAt.readsAll_map ds _ _ sd r1, List.countP_map]
    rfl
  have dp := SeqAt.depth_of_shaped se
  refine call_meets PySem.F.slot_tuple_count ⟨_, ho, rfl⟩ PySem.F.entry_tuple_count (PySem.F.args_tuple_count_2 _ _) (SeqAt.tuple_countAt a its.toArray n dd sl u (fun y => PyData.eqv (SeqAt.readOf s.heap y) d))
    ⟨ho, ?_, ?_⟩
  · refine SeqAt.items_eqAt (by simpa using r1) r2 sd (SeqAt.canLay_of_shaped se) ?_
    have := Nat.min_le_right (PyData.depthAll ds) d.depth
    show X.A.units + 1 + _ < cLine
    omega
  · rw [e1]
    exact ⟨.int _, H, I.tok _, ⟨_, rfl⟩, q⟩
end
end Mo
namespace MoEn
open PySem
open Sem (wp)
open AutoSeq1 (wpAny_loadPart')
set_option maxHeartbeats 1000000 in
theorem new_tup (l : Addr) (items : Array Value) (n : Nat) (dct : Option Addr) (sl : Array (Option Value)) :
    Meets (Builtin.«enumerate.__new__» ⟨[.type "enumerate", .ref l], []⟩) (fun _ R s => s.heap.get? l = some { cls := .type "tuple", dict := dct, data := .seq items n, slots := sl } ∧
      R (.ok (.ret (.ref (s.heap.push { cls := .type "tuple_iterator", data := .fields #[.ref l, .int 0 0] }).objs.size)))
        { s with heap := (s.heap.push { cls := .type "tuple_iterator", data := .fields #[.ref l, .int 0 0] }).push { cls := .type "enumerate", data := .fields #[.none, .bool false, .ref s.heap.objs.size, rawInt 0, .none, .none] } }) := by
  refine .of_wp ?_
  rintro prog w A R ⟨hp, g, d, tk, os⟩ ⟨hl, h⟩
  have hsub := sub_enumerate
  have hL : Heap.IsTuple (Shared.heap ⟨hp, g, d, tk, os⟩) l items := ⟨_, hl, rfl, n, rfl⟩
  wp_walk using wpAny_loadPart' hl
  refine wpAny_stack_any fun st => wpAny_pure ?_
  split
  · rename_i c _ _ _ _ _
    cases (c == Value.type "enumerate") <;> (wp_walk using wpAny_loadPart' hl, wpAny_pyIter_tuple hL; exact ⟨_, rfl, h⟩)
  · wp_walk using wpAny_loadPart' hl, wpAny_pyIter_tuple hL
    exact ⟨_, rfl, h⟩
theorem call_tup {prog : Program} {w : World} {A : Around} {E : Value → Shared → Prop} {s : Shared} {l : Addr} {items : Array Value} {Q : Value → Shared → Prop} (hL : s.heap.IsTuple l items)
    (h : ∀ h', IsEnum h' (s.heap.objs.size + 1) s.heap.objs.size 0 .none → h'.IsTupleIter s.heap.objs.size l 0 → (∀ b o, s.heap.get? b = some o → h'.get? b = some o) → Q (.ref (s.heap.objs.size + 1)) { s with heap := h' }) :
    wpAny (model prog w) A (call (.type "enumerate") [.ref l]) Q E s := by
  obtain ⟨⟨c, dct, dt, sl⟩, hl, hc, n, hd⟩ := hL
  cases (show c = .type "tuple" from hc)
  cases (show dt = .seq items n from hd)
  refine callType_new F.called_enumerate (by decide) (F.typeCall_enumerate_1 _) (F.newCall_enumerate_1 _) (fun obj => F.args_object_init_2 obj _) F.entry_enumerate_new (new_tup l items n dct sl) ⟨hl, ?_⟩
  have sz : (s.heap.push { cls := .type "tuple_iterator", data := .fields #[.ref l, .int 0 0] }).objs.size = s.heap.objs.size + 1 := Heap.size_push ..
  show _ ∧ _
  rw [sz]
  have en := Heap.get?_push_size (s.heap.push { cls := .type "tuple_iterator", data := .fields #[.ref l, .int 0 0] }) (o := { cls := .type "enumerate", data := .fields #[.none, .bool false, .ref s.heap.objs.size, rawInt 0, .none, .none] }) rfl
  rw [sz] at en
  exact ⟨⟨_, en, rfl⟩, h _ en ⟨_, Heap.get?_push_of_some _ (Heap.get?_push_size _ rfl), rfl, rfl⟩ fun b o x => Heap.get?_push_of_some _ (Heap.get?_push_of_some _ x)⟩
end MoEn
namespace Mo
open PySem PySem.Spec PyProof.Rows L2
/-- enumerate(tuple): the tuple at a, each item in a new pair -/
def IteT (K : PySem.W.Frag) (a : Addr) : It :=
  ⟨fun i H => ∃ (xs : List V) (x : V), SqT K H a xs ∧ xs[i]? = some x, fun i H v H' => ∃ T x, v = .ref T ∧ H T = none ∧ H' = upd H T (.tup [.int (i : Nat), x]) ∧ ∀ xs, SqT K H a xs → xs[i]? = some x, fun i H => ∃ xs : List V, SqT K H a xs ∧ xs.length = i⟩
theorem turn_enumT {P : Program} {w : World} {K : PySem.W.Frag} {elts : List Expr} {kk : Nat} {tpos : Pos} (a e it : Addr) (hae : a ≠ e) (hai : a ≠ it) :
    Turn P w K (.Tuple elts kk tpos) (IteT K a) [e, it] e (fun i h => (∃ old, IsEnum h e it ((i : Nat) : Int) old) ∧ h.IsTupleIter it a i ∧ e ≠ it) where
  mem := List.mem_cons_self
  obj := by
    rintro i h ⟨⟨old, he⟩, ⟨o, ho, hc, hd⟩, _⟩ b hb
    rcases List.mem_cons.mp hb with rfl | hb
    · exact ⟨_, he, fun v q => nomatch q⟩
    · cases List.mem_singleton.mp hb
      refine ⟨o, ho, fun v q => ?_⟩
      rw [hd] at q
      cases q
  keep := by
    rintro i h h' ⟨⟨old, he⟩, hi, hne⟩ k
    exact ⟨⟨old, k e (by simp) _ he⟩, hi.at fun o q => k it (by simp) o q, hne⟩
  item := by
    intro X hP hw hK hc i pins s σ H E I hf st hg
    subst hP hw hK
    obtain ⟨⟨old, he⟩, hit, hne⟩ := st
    obtain ⟨xs, x, hq, hx⟩ := hg
    obtain ⟨its, rv, p, hz⟩ := I.tuple hq
    obtain ⟨u, hu, ru⟩ := rv.get hx
    have hil : i < its.toArray.size := by
      rw [List.size_toArray]
      exact (List.getElem?_eq_some_iff.mp hu).1
    have hel : e < s.heap.objs.size := Heap.lt_size he
    have hit2 : it < s.heap.objs.size := by
      obtain ⟨_, q, _⟩ := hit
      exact Heap.lt_size q
    refine wpAny_pyNext_enum_itemD (Draws.tuple (A := X.A.in1) (I.ok.hd hc) it a hai its.toArray) he ⟨hit, p⟩ hil hne (by simp [hne, Ne.symm hae]) ?_
    intro y h' tk hy ho hst hT hsz hk
    have ey : y = u := by
      have : its.toArray[i]? = some y := hy
      rw [List.getElem?_toArray, hu] at this
      exact (Option.some.inj this).symm
    subst ey
    refine ⟨_, rfl, wpAny_letOwnedTupleGo_enum (s := { s with heap := h', toks := tk + 1 }) ho fun h'' he' sb => ?_⟩
    have hT2 : h''.get? s.heap.objs.size = some { cls := .type "tuple", data := .seq #[.int i tk, y] } := (sb.2 _ (Nat.ne_of_gt hel)).trans hT
    have new : ObjOk X.prog X.w (upd H s.heap.objs.size (.tup [.int (i : Nat), x])) h'' s.heap.objs.size (.tup [.int (i : Nat), x]) :=
      ⟨by show 2 ≤ sizeLine; decide, [.int i tk, y], .cons ⟨_, rfl⟩ (.cons ru .nil), ⟨_, hT2, rfl, _, rfl⟩⟩
    have I1 : Inv X pins σ (upd H s.heap.objs.size (.tup [.int (i : Nat), x])) { s with heap := h'', toks := tk + 1 } := by
      refine I.turnedNew (ch := [e, it]) ?_ hf (Nat.le_refl _) new
      intro b ob hb q
      have h1 : b ≠ e := fun z => hb (by simp [z])
      have h2 : b ≠ it := fun z => hb (by simp [z])
      exact (sb.2 b h1).trans (hk b ob h1 h2 q)
    refine ⟨.ref s.heap.objs.size, _, I1, rfl, ⟨_, x, rfl, I.hok.fresh (Nat.le_refl _), rfl, fun ys hy2 => ?_⟩, ⟨⟨y, ?_⟩, hst.1.at fun o q => (sb.2 it (Ne.symm hne)).trans q, hne⟩, fun b hb => ?_⟩
    · rw [I.tuple_inj hy2 hq]
      exact hx
    · have e1 : ((i + 1 : Nat) : Int) = (i : Int) + 1 := by omega
      rw [e1]
      exact he'
    · have hb' : b < s.heap.objs.size := by
        rcases List.mem_cons.mp hb with rfl | hb
        · exact hel
        · cases List.mem_singleton.mp hb
          exact hit2
      rw [upd_ne (Nat.ne_of_lt hb')]
      exact (hf b hb).1
  done := by
    intro X hP hw hK hc i pins s σ H E I hf st hg
    subst hP hw hK
    obtain ⟨⟨old, he⟩, hit, hne⟩ := st
    obtain ⟨xs, hq, hx⟩ := hg
    obtain ⟨its, rv, p, hz⟩ := I.tuple hq
    obtain ⟨f0, f1, f2, f3, f4, f5⟩ := hf it (by simp)
    have hi : i = its.toArray.size := by
      rw [List.size_toArray, ← rv.length]
      exact hx.symm
    subst hi
    refine wpAny_pyNext_enum_endD (Draws.tuple (A := X.A.in1) (I.ok.hd hc) it a hai its.toArray) he ⟨hit, p⟩ ?_
    intro h' eb
    exact ⟨rfl, I.turned (t' := s.toks) (fun b o hb q => eb b o hb q) f0 f1 f3 f4 f5⟩
  self := fun A i s Q E st h => let ⟨⟨_, he⟩, _⟩ := st; wpAny_pyIter_enum he h
def iEnumT (K : PySem.W.Frag) (ta : TA) : TI := fun σ H R => ta σ H fun vs H1 => ∃ a xs, vs = [.ref a] ∧ SqT K H1 a xs ∧ R (IteT K a) H1
theorem pi_enumT {X : Cx} {e : Expr} {ta : TA} {p pos tpos : Pos} {elts : List Expr} {kk : Nat} (hg : Gl X "enumerate") (hm : X.mg "enumerate" = none) (ha : PA X [e] ta) (hs : starEach [e] X.env = [(false, eval e X.env)] := by rfl) :
    PI X (.Tuple elts kk tpos) (.Call (.Name "enumerate" p) [e] [] pos) (iEnumT X.K ta) := by
  constructor
  intro pins s σ H R I h
  refine Call_ (ld_blt I hg hm boot_enumerate (PyProof.Rows.callWith_type1 (thn (ha.run pos pins s σ H _ I h) ?_) hs rfl))
  rintro us s1 ⟨vs, H1, I1, r1, a, xs, rfl, hq, q⟩
  obtain ⟨u, rfl, ru⟩ := vals1 r1
  cases ru
  obtain ⟨its, rv, p', hz⟩ := I1.tuple hq
  have hlt : a < s1.heap.objs.size := by
    obtain ⟨_, z, _⟩ := id p'
    exact Heap.lt_size z
  refine MoEn.call_tup p' fun h' he hit hk => wpAny_pyIter_enum he ?_
  have I2 : Inv X pins σ H1 { s1 with heap := h' } := I1.kept (t' := s1.toks) hk
  refine ⟨s1.heap.objs.size + 1, [s1.heap.objs.size + 1, s1.heap.objs.size], _, _, H1, rfl, I2, turn_enumT a (s1.heap.objs.size + 1) s1.heap.objs.size (Nat.ne_of_lt (Nat.lt_succ_of_lt hlt)) (Nat.ne_of_lt hlt), ⟨⟨.none, he⟩, hit, Nat.succ_ne_self _⟩, fun b hb => ?_, q⟩
  have hle : s1.heap.objs.size ≤ b := by
    rcases List.mem_cons.mp hb with rfl | hb
    · exact Nat.le_add_right _ _
    · cases List.mem_singleton.mp hb
      exact Nat.le_refl _
  exact I1.fpOk hle (I1.hok.fresh hle)
theorem walk_enumT {K : PySem.W.Frag} {a : Addr} {xs : List V} : Walk (IteT K a) xs.length (fun H => SqT K H a xs) (fun i H v H' => ∃ T x, v = .ref T ∧ H T = none ∧ H' = upd H T (.tup [.int (i : Nat), x]) ∧ xs[i]? = some x) :=
  ⟨fun i _ hi q => ⟨xs, xs[i], q, by simp [hi]⟩, fun _ q => ⟨xs, q, rfl⟩, fun i H x H' _ q y => let ⟨T, z, h1, h2, h3, h4⟩ := y; ⟨T, z, h1, h2, h3, h4 xs q⟩⟩
end Mo
set_option Elab.async false
set_option linter.all false
set_option maxRecDepth 100000
set_option maxHeartbeats 4000000
namespace Mo
open PySem
/-! ## repr tells plain data apart -/
abbrev cp (z : Str) : List Nat := z.cps.toList
theorem str_ext {x y : Str} (h : cp x = cp y) : x = y := by
  obtain ⟨a⟩ := x
  obtain ⟨b⟩ := y
  have : a = b := by
    have h2 : a.toList = b.toList := h
    rw [← Array.toArray_toList (xs := a), h2]
  rw [this]
/-- a plain sign: from the space to the tilde, no quote and no backslash -/
def Aln (c : Nat) : Bool := (decide (32 ≤ c) && decide (c ≤ 126)) && (decide (c ≠ 39) && decide (c ≠ 92))
def AlnT (z : Str) : Prop := ∀ c ∈ cp z, Aln c = true
theorem aln_lt {c : Nat} (h : Aln c = true) : c < 128 := by
  unfold Aln at h
  simp only [Bool.and_eq_true, decide_eq_true_eq] at h
  omega
theorem aln_char {c : Nat} (h : Aln c = true) : Builtin.Str.reprChar 39 c = [c] := by
  have all : (List.range 128).all (fun c => !Aln c || decide (Builtin.Str.reprChar 39 c = [c])) = true := by decide +kernel
  have := List.all_eq_true.mp all c (List.mem_range.mpr (aln_lt h))
  rw [h] at this
  simpa using this
theorem fold_aln (q : Nat) (hq : q = 39) : ∀ (l : List Nat) (acc : Array Nat), (∀ c ∈ l, Aln c = true) → (l.foldl (fun out c => out ++ (Builtin.Str.reprChar q c).toArray) acc).toList = acc.toList ++ l
  | [], acc, _ => by simp
  | c :: r, acc, h => by
    subst hq
    rw [List.foldl_cons, fold_aln 39 rfl r _ (fun d hd => h d (List.mem_cons_of_mem _ hd)), aln_char (h c List.mem_cons_self)]
    simp
theorem quote_aln {z : Str} (h : AlnT z) : reprQuote z = 39 := by
  unfold reprQuote
  have hn : z.cps.contains 39 = false := by
    rw [← Bool.not_eq_true, Array.contains_iff_mem]
    intro hm
    have := h 39 (by simpa using hm)
    exact absurd this (by decide)
  rw [hn]
  rfl
theorem repr_aln {z : Str} (h : AlnT z) : cp (reprText z) = 39 :: (cp z ++ [39]) := by
  unfold cp reprText
  rw [quote_aln h, ← Array.foldl_toList]
  simp only [Array.toList_push]
  rw [fold_aln 39 rfl _ _ h]
  simp
theorem cp_join2 (x y : Str) (r : List Str) : cp (Str.join ", " (x :: y :: r)) = cp x ++ ([44, 32] ++ cp (Str.join ", " (y :: r))) := by
  show cp (x ++ ", " ++ Str.join ", " (y :: r)) = _
  show (x ++ ", " ++ Str.join ", " (y :: r)).cps.toList = _
  rw [cps_app, cps_app, List.append_assoc]
  rfl
/-! plain data: nothing, numbers from 0 on, texts of letters and figures, tuples and lists of these -/
mutual
def Pl : PyData → Prop
  | .none => True
  | .int i => 0 ≤ i ∧ i.natAbs.log2 < 1920
  | .str z => AlnT z
  | .tuple ds => PlAll ds
  | .list ds => PlAll ds
  | .bool _ => False
  | .dict _ => False
def PlAll : List PyData → Prop
  | [] => True
  | d :: ds => Pl d ∧ PlAll ds
end
def isFig (c : Nat) : Bool := decide (48 ≤ c) && decide (c ≤ 57)
/-- what stands behind a datum: nothing, or something that does not begin with a figure -/
def Beh (r : List Nat) : Prop := ∀ c t, r = c :: t → isFig c = false
theorem beh_cons {c : Nat} {t : List Nat} (h : isFig c = false) : Beh (c :: t) := by
  intro d u e
  injection e with e1 _
  rw [← e1]
  exact h
theorem figs_part : ∀ (l m r s : List Nat), (∀ c ∈ l, isFig c = true) → (∀ c ∈ m, isFig c = true) → Beh r → Beh s → l ++ r = m ++ s → l = m ∧ r = s
  | [], [], _, _, _, _, _, _, e => ⟨rfl, e⟩
  | [], c :: m, r, s, _, hm, hr, _, e => by
    have := hr c (m ++ s) e
    rw [hm c List.mem_cons_self] at this
    cases this
  | c :: l, [], r, s, hl, _, _, hs, e => by
    have := hs c (l ++ r) e.symm
    rw [hl c List.mem_cons_self] at this
    cases this
  | c :: l, d :: m, r, s, hl, hm, hr, hs, e => by
    injection e with e1 e2
    obtain ⟨h1, h2⟩ := figs_part l m r s (fun x hx => hl x (List.mem_cons_of_mem _ hx)) (fun x hx => hm x (List.mem_cons_of_mem _ hx)) hr hs e2
    exact ⟨by rw [e1, h1], h2⟩
theorem aln_part : ∀ (l m r s : List Nat), (∀ c ∈ l, Aln c = true) → (∀ c ∈ m, Aln c = true) → l ++ 39 :: r = m ++ 39 :: s → l = m ∧ r = s
  | [], [], _, _, _, _, e => ⟨rfl, by injection e⟩
  | [], c :: m, r, s, _, hm, e => by
    injection e with e1 _
    have := hm c List.mem_cons_self
    rw [← e1] at this
    exact absurd this (by decide)
  | c :: l, [], r, s, hl, _, e => by
    injection e with e1 _
    have := hl c List.mem_cons_self
    rw [e1] at this
    exact absurd this (by decide)
  | c :: l, d :: m, r, s, hl, hm, e => by
    injection e with e1 e2
    obtain ⟨h1, h2⟩ := aln_part l m r s (fun x hx => hl x (List.mem_cons_of_mem _ hx)) (fun x hx => hm x (List.mem_cons_of_mem _ hx)) e2
    exact ⟨by rw [e1, h1], h2⟩
theorem num_cp (n : Nat) : cp (Str.ofString (toString (n : Int))) = (Nat.toDigits 10 n).map Char.toNat := PySem.W.KIN.signs_num n
theorem num_figs (n : Nat) : ∀ c ∈ cp (Str.ofString (toString (n : Int))), isFig c = true := by
  intro c hc
  rw [num_cp] at hc
  obtain ⟨d, hd, rfl⟩ := List.mem_map.mp hc
  have := Nat.isDigit_of_mem_toDigits (by decide) (by decide) hd
  unfold Char.isDigit at this
  simp only [Bool.and_eq_true, decide_eq_true_eq] at this
  unfold isFig
  rw [Bool.and_eq_true, decide_eq_true_eq, decide_eq_true_eq]
  exact ⟨UInt32.le_iff_toNat_le.mp this.1, UInt32.le_iff_toNat_le.mp this.2⟩
theorem num_ne (n : Nat) : ∃ c t, cp (Str.ofString (toString (n : Int))) = c :: t := by
  cases e : cp (Str.ofString (toString (n : Int))) with
  | nil =>
    rw [num_cp] at e
    have := List.map_eq_nil_iff.mp e
    exact absurd this Nat.toDigits_ne_nil
  | cons c t => exact ⟨c, t, rfl⟩
theorem num_inj {n m : Nat} (h : cp (Str.ofString (toString (n : Int))) = cp (Str.ofString (toString (m : Int)))) : n = m := by
  rw [num_cp, num_cp] at h
  rw [← PySem.W.KIN.val_back n, ← PySem.W.KIN.val_back m, h]
theorem cp_int {i : Int} (h : 0 ≤ i) : ∃ n : Nat, i = (n : Int) ∧ cp (PyData.int i).shown = cp (Str.ofString (toString (n : Int))) := by
  obtain ⟨n, rfl⟩ := Int.eq_ofNat_of_zero_le h
  exact ⟨n, rfl, rfl⟩
/-- the items with what closes them -/
def its (cl : List Nat) : List PyData → List Nat
  | [] => cl
  | [d] => cp d.shown ++ cl
  | d :: e :: ds => cp d.shown ++ ([44, 32] ++ its cl (e :: ds))
theorem its_join (cl : List Nat) : ∀ ds : List PyData, its cl ds = cp (Str.join ", " (PyData.shownAll ds)) ++ cl
  | [] => rfl
  | [d] => rfl
  | d :: e :: ds => by
    have ih := its_join cl (e :: ds)
    show cp d.shown ++ ([44, 32] ++ its cl (e :: ds)) = cp (Str.join ", " (d.shown :: e.shown :: PyData.shownAll ds)) ++ cl
    rw [ih, cp_join2]
    simp [PyData.shownAll]
theorem cp_list (ds : List PyData) : cp (PyData.list ds).shown = 91 :: its [93] ds := by
  have e : (PyData.list ds).shown = listText (PyData.shownAll ds) := by rw [PyData.shown]
  rw [e, listText_eq_join, its_join]
  show (("[" : Str) ++ Str.join ", " (PyData.shownAll ds) ++ "]").cps.toList = _
  rw [cps_app, cps_app]
  rfl
theorem shownAll_len : ∀ ds : List PyData, (PyData.shownAll ds).length = ds.length
  | [] => rfl
  | d :: ds => by
    show (PyData.shownAll ds).length + 1 = _
    rw [shownAll_len ds]
    rfl
def tcl (ds : List PyData) : List Nat := if ds.length = 1 then [44, 41] else [41]
theorem cp_tup (ds : List PyData) : cp (PyData.tuple ds).shown = 40 :: its (tcl ds) ds := by
  have e : (PyData.tuple ds).shown = tupleText (PyData.shownAll ds) := by rw [PyData.shown]
  rw [e, its_join]
  show (("(" : Str) ++ Str.join ", " (PyData.shownAll ds) ++ ((if (PyData.shownAll ds).length == 1 then ",)" else ")" : String) : Str)).cps.toList = _
  rw [cps_app, cps_app, shownAll_len]
  unfold tcl
  by_cases h : ds.length = 1
  · rw [if_pos h]
    simp only [h]
    rfl
  · rw [if_neg h]
    have : (ds.length == 1) = false := by simpa using h
    rw [this]
    rfl
theorem cp_none : cp PyData.none.shown = [78, 111, 110, 101] := by decide +kernel
/-- the first sign of a datum -/
theorem first_sign : ∀ {d : PyData}, Pl d → ∃ c t, cp d.shown = c :: t ∧ (match d with | .none => c = 78 | .int _ => isFig c = true | .str _ => c = 39 | .tuple _ => c = 40 | .list _ => c = 91 | _ => False)
  | .none, _ => ⟨78, _, cp_none, rfl⟩
  | .int i, h => by
    obtain ⟨n, rfl, e⟩ := cp_int h.1
    obtain ⟨c, t, e2⟩ := num_ne n
    exact ⟨c, t, e.trans e2, num_figs n c (by rw [e2]; exact List.mem_cons_self)⟩
  | .str z, h => ⟨39, _, (congrArg cp (PyData.shown_str z)).trans (repr_aln h), rfl⟩
  | .tuple ds, _ => ⟨40, _, cp_tup ds, rfl⟩
  | .list ds, _ => ⟨91, _, cp_list ds, rfl⟩
theorem same_first {d e : PyData} {r s : List Nat} (hd : Pl d) (he : Pl e) (h : cp d.shown ++ r = cp e.shown ++ s) :
    (d = .none ∧ e = .none) ∨ (∃ i j, d = .int i ∧ e = .int j) ∨ (∃ x y, d = .str x ∧ e = .str y) ∨ (∃ x y, d = .tuple x ∧ e = .tuple y) ∨ (∃ x y, d = .list x ∧ e = .list y) := by
  obtain ⟨c, t, h1, h2⟩ := first_sign hd
  obtain ⟨c', t', h3, h4⟩ := first_sign he
  rw [h1, h3] at h
  injection h with hc _
  subst hc
  cases d <;> cases e <;> simp only at h2 h4 <;> first
    | exact h2.elim
    | exact h4.elim
    | exact .inl ⟨rfl, rfl⟩
    | exact .inr (.inl ⟨_, _, rfl, rfl⟩)
    | exact .inr (.inr (.inl ⟨_, _, rfl, rfl⟩))
    | exact .inr (.inr (.inr (.inl ⟨_, _, rfl, rfl⟩)))
    | exact .inr (.inr (.inr (.inr ⟨_, _, rfl, rfl⟩)))
    | (exfalso; subst h2; exact absurd h4 (by decide))
    | (exfalso; subst h4; exact absurd h2 (by decide))
/-- what may close items -/
def Clo (cl : List Nat) : Prop := cl = [93] ∨ cl = [41] ∨ cl = [44, 41]
theorem clo_tup (ds : List PyData) : Clo (tcl ds) := by
  unfold tcl
  split
  · exact .inr (.inr rfl)
  · exact .inr (.inl rfl)
/-- the items behind the first one -/
def tls (cl : List Nat) : List PyData → List Nat
  | [] => cl
  | d :: ds => [44, 32] ++ (cp d.shown ++ tls cl ds)
theorem its_tls (cl : List Nat) : ∀ (d : PyData) (ds : List PyData), its cl (d :: ds) = cp d.shown ++ tls cl ds
  | d, [] => rfl
  | d, e :: ds => by
    show cp d.shown ++ ([44, 32] ++ its cl (e :: ds)) = _
    rw [its_tls cl e ds]
    rfl
theorem beh_tls {cl : List Nat} (h : Clo cl) (r : List Nat) : ∀ ds : List PyData, Beh (tls cl ds ++ r)
  | [] => by rcases h with rfl | rfl | rfl <;> exact beh_cons rfl
  | d :: ds => beh_cons rfl
theorem its_first {cl : List Nat} (h : cl = [93] ∨ cl = [41]) {e : PyData} {r s : List Nat} (he : Pl e) : cl ++ r = cp e.shown ++ s → False := by
  obtain ⟨c, t, h1, h2⟩ := first_sign he
  rw [h1]
  intro h3
  rcases h with rfl | rfl
  · injection h3 with h4 _
    subst h4
    cases e <;> simp only at h2 <;> first | exact absurd h2 (by decide) | exact h2
  · injection h3 with h4 _
    subst h4
    cases e <;> simp only at h2 <;> first | exact absurd h2 (by decide) | exact h2
def PartD (n : Nat) : Prop := ∀ (d e : PyData) (r s : List Nat), sizeOf d ≤ n → Pl d → Pl e → Beh r → Beh s → cp d.shown ++ r = cp e.shown ++ s → d = e ∧ r = s
def PartL (n : Nat) : Prop := ∀ (ds es : List PyData) (c1 c2 r s : List Nat), sizeOf ds ≤ n → Clo c1 → Clo c2 → PlAll ds → PlAll es → tls c1 ds ++ r = tls c2 es ++ s → ds = es ∧ c1 ++ r = c2 ++ s
theorem part_items {n : Nat} (hD : PartD n) (hL : PartL n) {x y : List PyData} {c1 c2 r s : List Nat} (hx : sizeOf x ≤ n) (k1 : Clo c1) (k2 : Clo c2) (e1 : x = [] → c1 = [93] ∨ c1 = [41]) (e2 : y = [] → c2 = [93] ∨ c2 = [41])
    (hd : PlAll x) (he : PlAll y) (h : its c1 x ++ r = its c2 y ++ s) : x = y ∧ c1 ++ r = c2 ++ s := by
  cases x with
  | nil =>
    cases y with
    | nil => exact ⟨rfl, h⟩
    | cons e es =>
      rw [its_tls, List.append_assoc] at h
      exact (its_first (e1 rfl) he.1 h).elim
  | cons d ds =>
    cases y with
    | nil =>
      rw [its_tls, List.append_assoc] at h
      exact (its_first (e2 rfl) hd.1 h.symm).elim
    | cons e es =>
      rw [its_tls, its_tls, List.append_assoc, List.append_assoc] at h
      have hs : sizeOf (d :: ds) = 1 + sizeOf d + sizeOf ds := rfl
      obtain ⟨h1, h2⟩ := hD d e _ _ (by omega) hd.1 he.1 (beh_tls k1 r ds) (beh_tls k2 s es) h
      obtain ⟨h3, h4⟩ := hL ds es _ _ r s (by omega) k1 k2 hd.2 he.2 h2
      exact ⟨by rw [h1, h3], h4⟩
theorem part_all : ∀ n, PartD n ∧ PartL n
  | 0 => by
    constructor
    · intro d e r s hz
      exfalso
      cases d <;> (simp at hz)
    · intro ds es c1 c2 r s hz
      exfalso
      cases ds <;> (simp at hz)
  | n + 1 => by
    obtain ⟨hD, hL⟩ := part_all n
    constructor
    · intro d e r s hz hd he hr hs h
      rcases same_first hd he h with ⟨rfl, rfl⟩ | ⟨i, j, rfl, rfl⟩ | ⟨x, y, rfl, rfl⟩ | ⟨x, y, rfl, rfl⟩ | ⟨x, y, rfl, rfl⟩
      · exact ⟨rfl, List.append_cancel_left h⟩
      · obtain ⟨n, rfl, e1⟩ := cp_int hd.1
        obtain ⟨m, rfl, e2⟩ := cp_int he.1
        rw [e1, e2] at h
        obtain ⟨h1, h2⟩ := figs_part _ _ r s (num_figs n) (num_figs m) hr hs h
        exact ⟨by rw [num_inj h1], h2⟩
      · rw [PyData.shown_str, PyData.shown_str, repr_aln hd, repr_aln he] at h
        have h : cp x ++ [39] ++ r = cp y ++ [39] ++ s := by injection h
        rw [List.append_assoc, List.append_assoc] at h
        obtain ⟨h1, h2⟩ := aln_part _ _ r s hd he h
        exact ⟨by rw [str_ext h1], h2⟩
      · rw [cp_tup, cp_tup] at h
        have h : its (tcl x) x ++ r = its (tcl y) y ++ s := by injection h
        have hs : sizeOf (PyData.tuple x) = 1 + sizeOf x := PyData.tuple.sizeOf_spec x
        obtain ⟨h1, h2⟩ := part_items hD hL (by omega) (clo_tup _) (clo_tup _) (fun e => .inr (by rw [e]; rfl)) (fun e => .inr (by rw [e]; rfl)) hd he h
        subst h1
        exact ⟨rfl, List.append_cancel_left h2⟩
      · rw [cp_list, cp_list] at h
        have h : its [93] x ++ r = its [93] y ++ s := by injection h
        have hs : sizeOf (PyData.list x) = 1 + sizeOf x := PyData.list.sizeOf_spec x
        obtain ⟨h1, h2⟩ := part_items hD hL (by omega) (.inl rfl) (.inl rfl) (fun _ => .inl rfl) (fun _ => .inl rfl) hd he h
        subst h1
        exact ⟨rfl, List.append_cancel_left h2⟩
    · intro ds es c1 c2 r s hz k1 k2 hd he h
      cases ds with
      | nil =>
        cases es with
        | nil => exact ⟨rfl, h⟩
        | cons e es =>
          exfalso
          rcases k1 with rfl | rfl | rfl
          · injection h with h1 _
            exact absurd h1 (by decide)
          · injection h with h1 _
            exact absurd h1 (by decide)
          · injection h with _ h2
            injection h2 with h3 _
            exact absurd h3 (by decide)
      | cons d ds =>
        cases es with
        | nil =>
          exfalso
          rcases k2 with rfl | rfl | rfl
          · injection h with h1 _
            exact absurd h1 (by decide)
          · injection h with h1 _
            exact absurd h1 (by decide)
          · injection h with _ h2
            injection h2 with h3 _
            exact absurd h3 (by decide)
        | cons e es =>
          have h : cp d.shown ++ (tls c1 ds ++ r) = cp e.shown ++ (tls c2 es ++ s) := by
            rw [← List.append_assoc, ← List.append_assoc]
            injection h with _ h2
            injection h2
          have hs : sizeOf (d :: ds) = 1 + sizeOf d + sizeOf ds := rfl
          obtain ⟨h1, h2⟩ := hD d e _ _ (by omega) hd.1 he.1 (beh_tls k1 r ds) (beh_tls k2 s es) h
          obtain ⟨h3, h4⟩ := hL ds es c1 c2 r s (by omega) k1 k2 hd.2 he.2 h2
          exact ⟨by rw [h1, h3], h4⟩
/-- equal reprs, equal data -/
theorem shown_inj {d e : PyData} (hd : Pl d) (he : Pl e) (h : d.shown = e.shown) : d = e := by
  refine ((part_all (sizeOf d)).1 d e [] [] (Nat.le_refl _) hd he (fun _ _ z => nomatch z) (fun _ _ z => nomatch z) ?_).1
  rw [h]
/-! ## == of plain data -/
theorem eqv_n : ∀ n : Nat, (∀ d e : PyData, sizeOf d ≤ n → Pl d → Pl e → PyData.eqv d e = true → d = e) ∧ (∀ ds es : List PyData, sizeOf ds ≤ n → PlAll ds → PlAll es → PyData.eqvAll ds es = true → ds = es)
  | 0 => by
    constructor
    · intro d e hz
      exfalso
      cases d <;> (simp at hz)
    · intro ds es hz
      exfalso
      cases ds <;> (simp at hz)
  | n + 1 => by
    obtain ⟨hD, hL⟩ := eqv_n n
    constructor
    · intro d e hz hd he h
      cases d with
      | none => cases e <;> first | rfl | (simp [PyData.eqv] at h)
      | bool b => exact hd.elim
      | dict kvs => exact hd.elim
      | int i =>
        cases e <;> first | exact he.elim | (simp [PyData.eqv] at h; try (rw [h]))
      | str x =>
        cases e <;> first | exact he.elim | (simp [PyData.eqv] at h; try (rw [h]))
      | tuple x =>
        cases e with
        | tuple y =>
          have hs : sizeOf (PyData.tuple x) = 1 + sizeOf x := PyData.tuple.sizeOf_spec x
          rw [hL x y (by omega) hd he (by simpa [PyData.eqv] using h)]
        | dict kvs => exact he.elim
        | bool b => exact he.elim
        | _ => simp [PyData.eqv] at h
      | list x =>
        cases e with
        | list y =>
          have hs : sizeOf (PyData.list x) = 1 + sizeOf x := PyData.list.sizeOf_spec x
          rw [hL x y (by omega) hd he (by simpa [PyData.eqv] using h)]
        | dict kvs => exact he.elim
        | bool b => exact he.elim
        | _ => simp [PyData.eqv] at h
    · intro ds es hz hd he h
      cases ds with
      | nil => cases es with
        | nil => rfl
        | cons e es => simp [PyData.eqvAll] at h
      | cons d ds => cases es with
        | nil => simp [PyData.eqvAll] at h
        | cons e es =>
          have hs : sizeOf (d :: ds) = 1 + sizeOf d + sizeOf ds := rfl
          simp only [PyData.eqvAll, Bool.and_eq_true] at h
          rw [hD d e (by omega) hd.1 he.1 h.1, hL ds es (by omega) hd.2 he.2 h.2]
theorem eqv_plain {d e : PyData} (hd : Pl d) (he : Pl e) (h : PyData.eqv d e = true) : d = e := (eqv_n (sizeOf d)).1 d e (Nat.le_refl _) hd he h
theorem lay_n : ∀ n : Nat, (∀ d : PyData, sizeOf d ≤ n → Pl d → d.canLay0 = true) ∧ (∀ ds : List PyData, sizeOf ds ≤ n → PlAll ds → PyData.canLayAll0 ds = true)
  | 0 => by
    constructor
    · intro d hz
      exfalso
      cases d <;> (simp at hz)
    · intro ds hz
      exfalso
      cases ds <;> (simp at hz)
  | n + 1 => by
    obtain ⟨hD, hL⟩ := lay_n n
    constructor
    · intro d hz hd
      cases d with
      | none => rfl
      | bool b => rfl
      | dict kvs => exact hd.elim
      | int i => rfl
      | str x =>
        have : Asc x := fun c hc => aln_lt (hd c hc)
        exact this.ok
      | tuple x =>
        have hs : sizeOf (PyData.tuple x) = 1 + sizeOf x := PyData.tuple.sizeOf_spec x
        exact hL x (by omega) hd
      | list x =>
        have hs : sizeOf (PyData.list x) = 1 + sizeOf x := PyData.list.sizeOf_spec x
        exact hL x (by omega) hd
    · intro ds hz hd
      cases ds with
      | nil => rfl
      | cons d ds =>
        have hs : sizeOf (d :: ds) = 1 + sizeOf d + sizeOf ds := rfl
        show (d.canLay0 && PyData.canLayAll0 ds) = true
        rw [hD d (by omega) hd.1, hL ds (by omega) hd.2]
        rfl
theorem lay_plain {d : PyData} (hd : Pl d) : d.canLay0 = true := (lay_n (sizeOf d)).1 d (Nat.le_refl _) hd
theorem lay_plainAll {ds : List PyData} (hd : PlAll ds) : PyData.canLayAll0 ds = true := (lay_n (sizeOf ds)).2 ds (Nat.le_refl _) hd
theorem eqv_refl_plain {d : PyData} (hd : Pl d) : PyData.eqv d d = true := SeqAt.eqv_refl d (lay_plain hd)
/-- two reprs are equal exactly if the data are -/
theorem alike_plain {d e : PyData} (hd : Pl d) (he : Pl e) : decide (d.shown = e.shown) = PyData.eqv d e := by
  by_cases h : d = e
  · subst h
    rw [eqv_refl_plain hd]
    simp
  · have h1 : ¬ d.shown = e.shown := fun z => h (shown_inj hd he z)
    have h2 : PyData.eqv d e = false := by
      cases z : PyData.eqv d e with
      | false => rfl
      | true => exact absurd (eqv_plain hd he z) h
    rw [h2, decide_eq_false h1]
theorem show_n : ∀ n : Nat, (∀ d : PyData, sizeOf d ≤ n → Pl d → d.showable = true ∧ d.hasDict = false) ∧ (∀ ds : List PyData, sizeOf ds ≤ n → PlAll ds → PyData.showableAll ds = true ∧ PyData.hasDictAll ds = false)
  | 0 => by
    constructor
    · intro d hz
      exfalso
      cases d <;> (simp at hz)
    · intro ds hz
      exfalso
      cases ds <;> (simp at hz)
  | n + 1 => by
    obtain ⟨hD, hL⟩ := show_n n
    constructor
    · intro d hz hd
      cases d with
      | none => exact ⟨rfl, rfl⟩
      | bool b => exact ⟨rfl, rfl⟩
      | dict kvs => exact hd.elim
      | int i => exact ⟨decide_eq_true hd.2, rfl⟩
      | str x => exact ⟨rfl, rfl⟩
      | tuple x =>
        have hs : sizeOf (PyData.tuple x) = 1 + sizeOf x := PyData.tuple.sizeOf_spec x
        exact hL x (by omega) hd
      | list x =>
        have hs : sizeOf (PyData.list x) = 1 + sizeOf x := PyData.list.sizeOf_spec x
        exact hL x (by omega) hd
    · intro ds hz hd
      cases ds with
      | nil => exact ⟨rfl, rfl⟩
      | cons d ds =>
        have hs : sizeOf (d :: ds) = 1 + sizeOf d + sizeOf ds := rfl
        obtain ⟨a1, a2⟩ := hD d (by omega) hd.1
        obtain ⟨b1, b2⟩ := hL ds (by omega) hd.2
        constructor
        · show (d.showable && PyData.showableAll ds) = true
          rw [a1, b1]
          rfl
        · show (d.hasDict || PyData.hasDictAll ds) = false
          rw [a2, b2]
          rfl
theorem show_plain {d : PyData} (hd : Pl d) : d.showable = true ∧ d.hasDict = false := (show_n (sizeOf d)).1 d (Nat.le_refl _) hd
/-! ## how long a repr is at most -/
mutual
def wt : PyData → Nat
  | .none => 4
  | .bool _ => 5
  | .int _ => 1921
  | .str z => z.length + 2
  | .tuple ds => wtAll ds + 3
  | .list ds => wtAll ds + 3
  | .dict _ => 0
def wtAll : List PyData → Nat
  | [] => 0
  | d :: ds => wt d + 2 + wtAll ds
end
theorem wtAll_cons (d : PyData) (ds : List PyData) : wtAll (d :: ds) = wt d + 2 + wtAll ds := by rw [wtAll]
theorem wt_tup (ds : List PyData) : wt (.tuple ds) = wtAll ds + 3 := by rw [wt]
theorem wt_lst (ds : List PyData) : wt (.list ds) = wtAll ds + 3 := by rw [wt]
theorem wt_n : ∀ n : Nat, (∀ d : PyData, sizeOf d ≤ n → Pl d → (cp d.shown).length ≤ wt d) ∧ (∀ (ds : List PyData) (cl : List Nat), sizeOf ds ≤ n → PlAll ds → (its cl ds).length ≤ wtAll ds + cl.length)
  | 0 => by
    constructor
    · intro d hz
      exfalso
      cases d <;> (simp at hz)
    · intro ds cl hz
      exfalso
      cases ds <;> (simp at hz)
  | n + 1 => by
    obtain ⟨hD, hL⟩ := wt_n n
    constructor
    · intro d hz hd
      cases d with
      | none =>
        rw [cp_none, wt]
        decide
      | bool b => exact hd.elim
      | dict kvs => exact hd.elim
      | int i =>
        rw [wt]
        show (Str.ofString (toString i)).cps.toList.length ≤ 1921
        have e := int_text_length_le (a := i) (k := 1920) (by decide) hd.2
        rw [← PySem.ofString_length] at e
        rw [Array.length_toList]
        exact e
      | str x =>
        rw [PyData.shown_str, repr_aln hd, wt]
        have : (cp x).length = x.length := Array.length_toList
        simp only [List.length_cons, List.length_append, List.length_nil]
        omega
      | tuple x =>
        have hs : sizeOf (PyData.tuple x) = 1 + sizeOf x := PyData.tuple.sizeOf_spec x
        rw [cp_tup, wt_tup, List.length_cons]
        have h := hL x (tcl x) (by omega) hd
        have h2 : (tcl x).length ≤ 2 := by
          unfold tcl
          split <;> decide
        omega
      | list x =>
        have hs : sizeOf (PyData.list x) = 1 + sizeOf x := PyData.list.sizeOf_spec x
        rw [cp_list, wt_lst, List.length_cons]
        have h := hL x [93] (by omega) hd
        have h2 : ([93] : List Nat).length = 1 := rfl
        omega
    · intro ds cl hz hd
      cases ds with
      | nil =>
        show cl.length ≤ wtAll [] + cl.length
        omega
      | cons d ds =>
        have hs : sizeOf (d :: ds) = 1 + sizeOf d + sizeOf ds := rfl
        have h1 := hD d (by omega) hd.1
        rw [wtAll_cons]
        cases ds with
        | nil =>
          show (cp d.shown ++ cl).length ≤ _
          rw [List.length_append]
          omega
        | cons e ds =>
          have h2 := hL (e :: ds) cl (by omega) hd.2
          show (cp d.shown ++ ([44, 32] ++ its cl (e :: ds))).length ≤ _
          rw [List.length_append, List.length_append]
          have h3 : ([44, 32] : List Nat).length = 2 := rfl
          omega
theorem shown_len {d : PyData} (hd : Pl d) : d.shown.length ≤ wt d := by
  have := (wt_n (sizeOf d)).1 d (Nat.le_refl _) hd
  rw [Array.length_toList] at this
  exact this
/-- a repr of plain data is a plain text -/
theorem shown_asc_n : ∀ n : Nat, (∀ d : PyData, sizeOf d ≤ n → Pl d → ∀ c ∈ cp d.shown, c < 128) ∧ (∀ (ds : List PyData) (cl : List Nat), sizeOf ds ≤ n → PlAll ds → (∀ c ∈ cl, c < 128) → ∀ c ∈ its cl ds, c < 128)
  | 0 => by
    constructor
    · intro d hz
      exfalso
      cases d <;> (simp at hz)
    · intro ds cl hz
      exfalso
      cases ds <;> (simp at hz)
  | n + 1 => by
    obtain ⟨hD, hL⟩ := shown_asc_n n
    constructor
    · intro d hz hd
      cases d with
      | none =>
        rw [cp_none]
        decide
      | bool b => exact hd.elim
      | dict kvs => exact hd.elim
      | int i => exact Asc.num i
      | str x =>
        rw [PyData.shown_str, repr_aln hd]
        intro c hc
        rcases List.mem_cons.mp hc with rfl | hc
        · decide
        · rcases List.mem_append.mp hc with hc | hc
          · exact aln_lt (hd c hc)
          · rw [List.mem_singleton.mp hc]
            decide
      | tuple x =>
        have hs : sizeOf (PyData.tuple x) = 1 + sizeOf x := PyData.tuple.sizeOf_spec x
        rw [cp_tup]
        intro c hc
        rcases List.mem_cons.mp hc with rfl | hc
        · decide
        · refine hL x (tcl x) (by omega) hd ?_ c hc
          unfold tcl
          split <;> decide
      | list x =>
        have hs : sizeOf (PyData.list x) = 1 + sizeOf x := PyData.list.sizeOf_spec x
        rw [cp_list]
        intro c hc
        rcases List.mem_cons.mp hc with rfl | hc
        · decide
        · exact hL x [93] (by omega) hd (by decide) c hc
    · intro ds cl hz hd hcl
      cases ds with
      | nil => exact hcl
      | cons d ds =>
        have hs : sizeOf (d :: ds) = 1 + sizeOf d + sizeOf ds := rfl
        have h1 := hD d (by omega) hd.1
        cases ds with
        | nil =>
          intro c hc
          rcases List.mem_append.mp (show c ∈ cp d.shown ++ cl from hc) with hc | hc
          · exact h1 c hc
          · exact hcl c hc
        | cons e ds =>
          have h2 := hL (e :: ds) cl (by omega) hd.2 hcl
          intro c hc
          rcases List.mem_append.mp (show c ∈ cp d.shown ++ ([44, 32] ++ its cl (e :: ds)) from hc) with hc | hc
          · exact h1 c hc
          · rcases List.mem_append.mp hc with hc | hc
            · have h3 : ∀ c ∈ ([44, 32] : List Nat), c < 128 := by decide
              exact h3 c hc
            · exact h2 c hc
theorem shown_asc {d : PyData} (hd : Pl d) : Asc d.shown := (shown_asc_n (sizeOf d)).1 d (Nat.le_refl _) hd
end Mo
set_option Elab.async false
set_option linter.all false
set_option maxRecDepth 100000
set_option maxHeartbeats 4000000
namespace Mo
open PySem PySem.Spec PyProof.Rows L2
/-! ## tuples whose object is known: their methods may be called -/
/-- a tuple at p, its object without a dict -/
def TX (H : Hp) (p : Addr) (xs : List V) : Prop := ∃ ob : Obj, ob.dict = none ∧ H p = some (.frz ob (.tup xs))
theorem TX.same {H H' : Hp} {p : Addr} {xs : List V} (h : TX H p xs) (e : Same H H') : TX H' p xs := let ⟨ob, d, h⟩ := h; ⟨ob, d, e _ _ h⟩
theorem TX.sq {K : PySem.W.Frag} {H : Hp} {p : Addr} {xs : List V} (h : TX H p xs) : SqT K H p xs := let ⟨ob, _, h⟩ := h; .inl (.inr ⟨ob, h⟩)
theorem TX.ty {K : PySem.W.Frag} {H : Hp} {p : Addr} {xs : List V} (h : TX H p xs) : TyX K H (.ref p) (.type Ty7.tup.nm) := let ⟨_, _, h⟩ := h; .fTuple h
theorem TX.at {H : Hp} {p : Addr} {xs : List V} (h : TX H p xs) : ∃ o, H p = some o := let ⟨_, _, h⟩ := h; ⟨_, h⟩
theorem TX.keep {H H' : Hp} {a p : Addr} {xs : List V} (h : TX H p xs) (n : p ≠ a) (e : KeepBut a H H') : TX H' p xs := let ⟨ob, d, h⟩ := h; ⟨ob, d, e _ _ n h⟩
section
variable {X : Cx}
theorem laidX {pins : List (Addr × Obj)} {σ : L2.St} {H : Hp} {s : Shared} {xs : List V} {its : List Value} {t' : Nat} (I : Inv X pins σ H s) (hz : xs.length ≤ sizeLine) (r : Vals xs its) :
    Inv X pins σ (upd H s.heap.objs.size (.frz { cls := .type "tuple", data := .seq its.toArray } (.tup xs))) { s with heap := s.heap.push { cls := .type "tuple", data := .seq its.toArray }, toks := t' } :=
  I.laid (t' := t') (fun b ob q => Heap.get?_push_of_some _ q) (Nat.le_refl _) ⟨Heap.get?_push_size _ rfl, hz, its, r, IsTup.new _ _⟩
/-- what is asked of a new tuple -/
abbrev newX (H : Hp) (xs : List V) (Q : VK) : Prop := ∀ (p : Addr) (ob : Obj), ob.dict = none → H p = none → Q (.ref p) (upd H p (.frz ob (.tup xs)))
def tTupX (t : TA) : TE := fun σ H Q => t σ H fun xs H1 => xs.length ≤ sizeLine ∧ newX H1 xs Q
theorem pe_tupX {es : List Expr} {t : TA} {x1} {pos : Pos} (h : PA X es t) : PE X (.Tuple es x1 pos) (tTupX t) := by
  refine ⟨fun pins s σ H Q I hq => ?_⟩
  refine wpAny_Tuple_spliced (thn (h.run pos pins s σ H _ I hq) fun us s1 ⟨xs, H1, I1, r, z, q⟩ => ⟨by rw [← r.length]; exact z, ?_⟩)
  exact ⟨.ref s1.heap.objs.size, _, laidX (t' := s1.toks) I1 z r, rfl, q _ _ rfl (I1.hok.fresh (Nat.le_refl _))⟩
theorem call_tuple_ofX : CallR X (.type "tuple") (fun xs H Q => ∃ p ys, xs = [.ref p] ∧ SqL X.K H p ys ∧ newX H ys Q) := by
  intro pins s σ H xs us Q I r h
  obtain ⟨p, ys, rfl, hq, q⟩ := h
  obtain ⟨u, rfl, rx⟩ := vals1 r
  cases rx
  obtain ⟨its, r', pl, hz⟩ := I.list hq
  have hlen := r'.length
  refine call_tuple_list pl.isList (fun h' kp => ?_) (by simp only [List.size_toArray] <;> omega)
  have I1 : Inv X pins σ H { s with heap := h' } := I.kept (t' := s.toks) kp
  exact ⟨.ref h'.objs.size, _, laidX (t' := s.toks) I1 hz r', rfl, q _ _ rfl (I1.hok.fresh (Nat.le_refl _))⟩
def rCatX (K : PySem.W.Frag) : R2 := fun x y H Q => ∃ a b xs ys, x = .ref a ∧ y = .ref b ∧ SqT K H a xs ∧ SqT K H b ys ∧ xs.length + ys.length ≤ sizeLine ∧
  (xs = [] → Q (.ref b) H) ∧ (ys = [] → Q (.ref a) H) ∧ newX H (xs ++ ys) Q
theorem op_catX : OpR X (binaryOp .Add) (rCatX X.K) := by
  intro pins s σ H x y v u Q I rx ry h
  obtain ⟨a, b, xs, ys, rfl, rfl, ha, hb, hz, q0, q1, q2⟩ := h
  cases rx
  cases ry
  obtain ⟨its, r1, p1, _⟩ := I.tuple ha
  obtain ⟨its2, r2, p2, _⟩ := I.tuple hb
  by_cases hx : xs = []
  · subst hx
    cases r1
    exact cat_tup0 p1 p2 ⟨.ref b, H, I, rfl, q0 rfl⟩
  · refine HT.cat_tup p1 p2 (fun z => hx (r1.nil_iff.mp z)) (fun z => ⟨.ref a, H, I, rfl, q1 (r2.nil_iff.mp z)⟩) (fun z => ?_) (by rw [← r1.length, ← r2.length]; exact hz)
    exact ⟨.ref s.heap.objs.size, _, laidX (t' := s.toks) I (by rw [List.length_append]; exact hz) (r1.append r2), rfl, q2 _ _ rfl (I.hok.fresh (Nat.le_refl _))⟩
def rSlX1 (K : PySem.W.Frag) : V → Option Int → Option Int → Hp → VK → Prop := fun x lo hi H Q => ∃ a xs, x = .ref a ∧ SqT K H a xs ∧
  (cutV xs lo hi = xs → Q (.ref a) H) ∧ newX H (cutV xs lo hi) Q
theorem cut_whole {xs : List V} {lo hi : Option Int} (h : HT.sIx xs.length 0 lo = 0 ∧ HT.sIx xs.length xs.length hi = xs.length) : cutV xs lo hi = xs := by
  unfold cutV
  rw [h.1, h.2]
  simp
theorem sl_tupX : SlR X (rSlX1 X.K) := by
  intro pins s σ H x v vl vu lo hi sl Q I rx hs pl pu h
  obtain ⟨a, xs, rfl, hx, q1, q2⟩ := h
  cases rx
  obtain ⟨its, r, ht, hz⟩ := I.tuple hx
  have hlen : its.toArray.size = xs.length := by rw [List.size_toArray]; exact r.length.symm
  refine ⟨"tuple", _, PyProof.Rows.slot_tuple_getitem.lookup, ht.typeIs, ?_⟩
  by_cases hw : HT.sIx xs.length 0 lo = 0 ∧ HT.sIx xs.length xs.length hi = xs.length
  · exact getItem_tuple_whole ht hs pl pu (by rw [hlen]; exact hw) ⟨.ref a, H, I, rfl, q1 (cut_whole hw)⟩
  · refine HT.getItem_tuple_cut ht hs pl pu (by rw [hlen]; exact hw) ?_ (by rw [hlen]; exact hz)
    rw [hlen]
    exact ⟨.ref s.heap.objs.size, _, laidX (t' := s.toks) I (Nat.le_trans (cutV_length xs lo hi) hz) ((r.drop (HT.sIx xs.length 0 lo)).take (HT.sIx xs.length xs.length hi - HT.sIx xs.length 0 lo)), rfl, q2 _ _ rfl (I.hok.fresh (Nat.le_refl _))⟩
/-- t.m(..) of such a tuple -/
def tBX (r : V → List V → Hp → VK → Prop) (to : TE) (t : TA) : TE := fun σ H Q => to σ H fun x H1 => (∃ p ys, x = .ref p ∧ TX H1 p ys) ∧ t σ H1 fun xs H2 => r x xs H2 Q
theorem pe_bmX {o e : Expr} {es : List Expr} {to : TE} {t : TA} {name : Str} {apos cpos : Pos} {id : String} {r : V → List V → Hp → VK → Prop} (slot : Slot "tuple" name id) (hty : typeOf (.builtin id) = pure (.type "method_descriptor")) (hm : MtR X id r) (ho : PE X o to) (ha : PA X (e :: es) t)
    (hbase : attributeBase o name X.env (eval o X.env) = eval o X.env := by rfl)
    (hfew : ((backTo cpos (starEach (e :: es) X.env)).all (fun x => !x.1) && (backToKw cpos (keywordEach [] X.env)).all (fun x => x.1.isSome)
      && decide ((e :: es).length + ([] : List Keyword).length + (if ([] : List Keyword).isEmpty then 0 else 1) < 30)) = true := by rfl)
    (hline : (apos.endLine == cpos.line) = true := by rfl) (hs : starEach (e :: es) X.env = (false, eval e X.env) :: starEach es X.env := by rfl) (hplain : (backTo cpos (starEach es X.env)).any (·.1) = false := by rfl) :
    PE X (.Call (.Attribute o name apos) (e :: es) [] cpos) (tBX r to t) := by
  refine ⟨fun pins s σ H Q I h => ?_⟩
  refine wpAny_Call_method_late hbase hfew hline rfl (thn (ho.run pins s σ H _ I h) fun v s1 ⟨x, H1, I1, r1, ty, q1⟩ => ?_)
  obtain ⟨p, ys, rfl, ob, hd, hp⟩ := ty
  obtain ⟨g1, _, _, _, o2, g2, hc, _⟩ := (show ObjOk X.prog X.w H1 s1.heap p (.frz ob (.tup ys)) from I1.hok p _ hp)
  cases (show v = Value.ref p from r1)
  have e2 : o2 = ob := by
    rw [g1] at g2
    exact (Option.some.inj g2).symm
  subst e2
  refine ⟨"tuple", id, PySem.F.plainAttrs_tuple, slot, hty, ⟨_, g1, hc⟩, fun a e => by cases e; exact ⟨_, g1, hd⟩, ?_⟩
  have hA := ha.run cpos pins s1 σ H1 _ I1 q1
  rw [hs] at hA ⊢
  refine Calls.callWith_builtin (by show (false || (backTo cpos (starEach es X.env)).any (·.1)) = false; rw [hplain] <;> rfl) (Calls.evalArgs_plain ?_)
  exact thn hA fun us s2 ⟨vs, H2, I2, r2, q2⟩ => hm pins s2 σ H2 (.ref p) vs (.ref p) us Q I2 r1 r2 q2
end
end Mo
set_option Elab.async false
set_option linter.all false
set_option maxRecDepth 100000
set_option maxHeartbeats 4000000
/-! max(xs, default=d); stars in displays -/
namespace MoMx
open PySem PySem.Spec PyProof.Rows
section
variable {prog : Program} {w : World} {A : Around} {E : Value → Shared → Prop} {s : Shared}
theorem tree_kw {id : String} {b : Builtin} {args : List Value} {kw : List (Str × Value)} {Q : Value → Shared → Prop} (hk : builtinKind id = none) (hp : plainId id = true) (hb : entryFor table id = some b) (ha : argsOk id ⟨args, kw⟩)
    (hc : wpAny (model prog w) A.in1 (b ⟨args, kw⟩) (fun fin s' => match fin with
      | .done f => (match (Except.ok f : Result) with | .ok (.ret v) => Q v s' | .ok _ => False | .error e => E e s')
      | .again c' => c'.quiet = true ∧ codeAny (model prog w) A c' (fun r s' => match r with | .ok (.ret v) => Q v s' | .ok _ => False | .error e => E e s') s') E s) :
    wpAny (model prog w) A (call (.builtin id) args kw) Q E s := by
  refine wpAny_call (codeAny_call_builtin hp hb ?_)
  simp only [checkBuiltinCall, hk]
  cases z : Manifest.signature? id with
  | none => exact wpAny_pure hc
  | some sig =>
    have ok : Bind.checkArgs id sig ⟨args, kw⟩ = pure () := by simpa only [argsOk, z] using ha
    simp only [ok]
    exact wpAny_pure hc
end
section
variable {prog : Program} {w : World} {A : Around} {R : Result → Shared → Prop} {I : Addr} {fp wr : List Addr} {n : Nat} {P : Nat → Value → Prop} {St : Nat → Heap → Prop}
/-- what the list of the best holds when i items are seen -/
def Best (P : Nat → Value → Prop) (bt : Nat → Nat → Bool) (i : Nat) (old : Array Value) : Prop := (i = 0 ∧ old = #[]) ∨ ∃ vb j, i = j + 1 ∧ old = #[vb, vb] ∧ P (argBest bt j) vb
theorem loop_d (W : Walks prog w A.in1 I fp wr n P St) (bt : Nat → Nat → Bool) (hcmp : CmpOf prog w A.in1 .Gt P bt) (S : Addr) (hSf : S ∉ fp) (d : Value) :
    ∀ (k i : Nat) (s : Shared) (old : Array Value) (c : Nat), n - i = k → i ≤ n → St i s.heap → Best P bt i old → s.heap.get? S = some { cls := .type "list", dict := none, data := .seq old c, slots := #[] } →
    (∀ v h' tk, (n = 0 ∧ v = d ∨ ∃ j, n = j + 1 ∧ P (argBest bt j) v) → (∀ b o, b ∉ wr → b ≠ S → s.heap.get? b = some o → h'.get? b = some o) → R (.ok (.ret v)) { s with heap := h', toks := tk }) →
    codeAny (model prog w) A (.builtin "max.loop" ⟨[.ref I, .none, .ref S], [("default", d)]⟩) R s := by
  have hSw : S ∉ wr := fun h => hSf (W.sub _ h)
  have nm : (toString "max" ++ toString ".loop" : String) = "max.loop" := by decide
  intro k
  induction k with
  | zero =>
    intro i s old c hk hi hst hB hS hR
    have hin : i = n := by omega
    subst hin
    refine codeAny_builtin F.entry_max_loop ?_
    rw [Around.under_plainId F.plain_max_loop _]
    show wpAny _ A.in1 (seqItems? (.ref S) >>= _) _ _ s
    refine wpAny_bind (wpAny_seqItems hS rfl ?_)
    show wpAny _ A.in1 (tryCatch (pyNext (.ref I)) _ >>= _) _ _ s
    refine wpAny_bind (wpAny_tryCatch (W.done s _ _ hst fun h' tk kp => ?_))
    rcases hB with ⟨rfl, rfl⟩ | ⟨vb, j, rfl, rfl, hp⟩
    · exact wpAny_bind (wpAny_rule (wpAny_pure (hR d h' tk (.inl ⟨rfl, rfl⟩) fun b o n1 _ e => kp b o n1 e)))
    · have hS' := kp S _ hSw hS
      show wpAny _ A.in1 (updateSeq S (fun _ => #[]) >>= _) _ _ _
      refine wpAny_bind (wpAny_updateSeq hS' rfl (wpAny_bind (wpAny_letGo (wpAny_pure ?_))))
      exact hR vb _ tk (.inr ⟨j, rfl, hp⟩) fun b o n1 n2 e => (Heap.get?_update_other _ _ (Ne.symm n2)).trans (kp b o n1 e)
  | succ k ih =>
    intro i s old c hk hi hst hB hS hR
    have hlt : i < n := by omega
    have kf : ∀ {h : Heap} {o : Obj} {b : Addr} {g : Obj → Obj}, b ∈ fp → h.get? b = some o → (h.update S g).get? b = some o := fun hb e => (Heap.get?_update_other _ _ (fun z => hSf (by rw [z]; exact hb))).trans e
    refine codeAny_builtin F.entry_max_loop ?_
    rw [Around.under_plainId F.plain_max_loop _]
    show wpAny _ A.in1 (seqItems? (.ref S) >>= _) _ _ s
    refine wpAny_bind (wpAny_seqItems hS rfl ?_)
    show wpAny _ A.in1 (tryCatch (pyNext (.ref I)) _ >>= _) _ _ s
    refine wpAny_bind (wpAny_tryCatch (W.item i s _ _ hlt hst fun v h' tk hP hst' kp => ?_))
    have hS' := kp S _ hSw hS
    rcases hB with ⟨rfl, rfl⟩ | ⟨vb, j, rfl, rfl, hp⟩
    · show wpAny _ A.in1 (updateSeq S (fun _ => #[v, v]) >>= _) _ _ _
      refine wpAny_bind (wpAny_updateSeq hS' rfl ?_)
      rw [nm]
      refine wpAny_pure ⟨plainId_quiet F.plain_max_loop _, ih 1 _ _ _ (by omega) hlt (W.frame _ _ _ hst' fun b hb o e => kf hb e) (.inr ⟨v, 0, rfl, rfl, hP⟩) (Heap.get?_update_self _ hS' rfl) fun v2 h2 tk2 hv2 kp2 => ?_⟩
      exact hR v2 h2 tk2 hv2 fun b o n1 n2 e => kp2 b o n1 n2 ((Heap.get?_update_other _ _ (Ne.symm n2)).trans (kp b o n1 e))
    · show wpAny _ A.in1 (tryCatch (holding [v, v] (richCompare .Gt v vb >>= _)) _ >>= _) _ _ _
      refine wpAny_bind (wpAny_tryCatch (wpAny_holding (wpAny_bind (hcmp (j + 1) (argBest bt j) v vb _ _ _ hP hp (wpAny_bind (wpAny_holding (wpAny_truthy_bool (wpAny_bind (wpAny_letGo (wpAny_pure ?_))))))))))
      cases hb : bt (j + 1) (argBest bt j) with
      | true =>
        simp only [if_true]
        refine wpAny_bind (wpAny_updateSeq hS' rfl (wpAny_bind (wpAny_letGo ?_)))
        rw [nm]
        refine wpAny_pure ⟨plainId_quiet F.plain_max_loop _, ih (j + 2) _ _ _ (by omega) hlt (W.frame _ _ _ hst' fun b hb o e => kf hb e) (.inr ⟨v, j + 1, rfl, rfl, by simp only [argBest, hb, if_true]; exact hP⟩) (Heap.get?_update_self _ hS' rfl) fun v2 h2 tk2 hv2 kp2 => ?_⟩
        exact hR v2 h2 tk2 hv2 fun b o n1 n2 e => kp2 b o n1 n2 ((Heap.get?_update_other _ _ (Ne.symm n2)).trans (kp b o n1 e))
      | false =>
        simp only [Bool.false_eq_true, if_false]
        refine wpAny_bind (wpAny_letGo ?_)
        rw [nm]
        refine wpAny_pure ⟨plainId_quiet F.plain_max_loop _, ih (j + 2) _ _ c (by omega) hlt hst' (.inr ⟨vb, j + 1, rfl, rfl, by simp only [argBest, hb, Bool.false_eq_true, if_false]; exact hp⟩) hS' fun v2 h2 tk2 hv2 kp2 => ?_⟩
        exact hR v2 h2 tk2 hv2 fun b o n1 n2 e => kp2 b o n1 n2 (kp b o n1 e)
end
theorem args_d (a d : Value) : argsOk "max" ⟨[a], [("default", d)]⟩ := by unfold argsOk; kernel_rfl
section
variable {prog : Program} {w : World} {A : Around} {E : Value → Shared → Prop} {s : Shared}
theorem call_d {x d : Value} {Q : Value → Shared → Prop}
    (h : wpAny (model prog w) A.in1 (pyIter x) (fun it s₂ => ∃ I fp wr n P St bt, it = .ref I ∧ Walks prog w A.in1 I fp wr n P St ∧ St 0 s₂.heap ∧ (∀ b ∈ fp, b < s₂.heap.objs.size) ∧ CmpOf prog w A.in1 .Gt P bt ∧
      ∀ v h' tk, (n = 0 ∧ v = d ∨ ∃ j, n = j + 1 ∧ P (argBest bt j) v) → (∀ b o, b ∉ wr → s₂.heap.get? b = some o → h'.get? b = some o) → Q v { s₂ with heap := h', toks := tk }) E s) :
    wpAny (model prog w) A (call (.builtin "max") [x] [("default", d)]) Q E s := by
  have nm : (toString "max" ++ toString ".loop" : String) = "max.loop" := by decide
  refine tree_kw F.kind_max F.plain_max F.entry_max (args_d _ _) ?_
  show wpAny _ A.in1 (Builtin.Builtins.bindParams "max" ["key", "default"] 0 ⟨[], [("default", d)]⟩ >>= _) _ _ s
  refine wpAny_bind (wpAny_of_eq (show Builtin.Builtins.bindParams "max" ["key", "default"] 0 ⟨[], [("default", d)]⟩ = pure [none, some d] from rfl) ?_)
  refine wpAny_bind (wpAny_pure ?_)
  refine wpAny_bind (wpAny_mono h (fun it s₂ h₂ => ?_) fun _ _ e => e)
  obtain ⟨I, fp, wr, n, P, St, bt, rfl, W, hst, hfp, hcmp, hQ⟩ := h₂
  refine wpAny_bind (wpAny_newObj_type ?_)
  have hSf : s₂.heap.objs.size ∉ fp := fun hm => Nat.lt_irrefl _ (hfp _ hm)
  rw [nm]
  refine wpAny_pure ⟨plainId_quiet F.plain_max_loop _, loop_d W bt hcmp s₂.heap.objs.size hSf d n 0 _ #[] _ rfl (Nat.zero_le _) (W.frame _ _ _ hst fun b _ o e => Heap.get?_push_of_some _ e) (.inl ⟨rfl, rfl⟩) (Heap.get?_push_size _ rfl) fun v h' tk hP hk => ?_⟩
  exact hQ v h' tk hP fun b o n1 e => hk b o n1 (Nat.ne_of_lt (Heap.lt_size e)) (Heap.get?_push_of_some _ e)
end
end MoMx
namespace Mo
open PySem PySem.Spec PyProof.Rows L2
section
variable {X : Cx}
/-- max(xs, default=d), xs a list of ints -/
def rMaxDf (K : PySem.W.Frag) : List V → List V → Hp → VK → Prop := fun vs zs H Q => ∃ (a : Addr) (ns : List Int) (d : V), vs = [V.ref a] ∧ zs = [d] ∧ SqL K H a (ns.map V.int) ∧ (ns = [] → Q d H) ∧ ∀ m, m ∈ ns → (∀ y, y ∈ ns → y ≤ m) → Q (.int m) H
theorem cr_maxDf (hc : X.calm = true) : CallRK X (.builtin "max") ["default"] (rMaxDf X.K) := by
  intro pins s σ H vs zs us ws Q I r1 r2 h
  obtain ⟨a, ns, d, rfl, rfl, hs, q0, q⟩ := h
  obtain ⟨its, rv, hl, _⟩ := I.list hs
  rw [Vals.ref1 r1]
  obtain ⟨ud, rfl, rd⟩ := vals1 r2
  have hi := rv.ints
  have hl := hl.isList
  obtain ⟨xs, e⟩ := hi.allInts.items
  have hn : numsOf (intItems xs).toList = ns := by rw [← e]; exact hi.numsOf
  rw [nums_intItems] at hn
  subst hn
  rw [e] at hl
  show wpAny (model X.prog X.w) X.A (call (.builtin "max") [.ref a] [("default", ud)]) _ _ s
  refine MoMx.call_d (iter_intList hl fun s₂ e2 st hfp hlI => ?_)
  subst e2
  refine ⟨_, _, _, _, _, _, _, rfl, Walks.list (A := X.A.in1) (I.ok.hd hc) _ a hlI (intItems xs), st, hfp, CmpOf.ints_gt (numAt xs) (fun _ _ => intItems_at), fun v h' tk hP hk => ?_⟩
  have I' : Inv X pins σ H _ := I.kept (h' := h') (t' := tk) (old_kept hk)
  have sz : (intItems xs).size = xs.size := by simp [intItems]
  rcases hP with ⟨h0, rfl⟩ | ⟨j, hj, hP⟩
  · rw [sz] at h0
    refine ⟨d, H, I', rd, q0 ?_⟩
    rw [List.map_eq_nil_iff, Array.toList_eq_nil_iff]
    exact Array.size_eq_zero_iff.mp h0
  · rw [sz] at hj
    obtain ⟨t, rfl⟩ := intItems_at hP
    obtain ⟨h1, h2⟩ := argBest_gt (numAt xs) j
    refine ⟨.int _, H, I', ⟨t, rfl⟩, q _ ?_ fun y hy => ?_⟩
    · rw [numAt_eq]
      exact PySem.getD_mem (by rw [List.length_map, Array.length_toList]; omega)
    · obtain ⟨i, hi, rfl⟩ := mem_getD hy
      rw [List.length_map, Array.length_toList] at hi
      rw [← numAt_eq]
      exact h2 i (by omega)
/-- *e in a display or a call, e a tuple or a list -/
def tStar (K : PySem.W.Frag) (te : TE) (t : TA) : TA := fun σ H Q => te σ H fun x H1 => ∃ a xs, x = .ref a ∧ (SqT K H1 a xs ∨ SqL K H1 a xs) ∧ t σ H1 fun ys H2 => Q (xs ++ ys) H2
theorem star_lst {pins : List (Addr × Obj)} {σ : L2.St} {H : Hp} {s : Shared} {a : Addr} {xs : List V} {E : Value → Shared → Prop} {Q : List Value → Shared → Prop} (I : Inv X pins σ H s) (h : SqL X.K H a xs) (hQ : ∀ us s', Inv X pins σ H s' → Vals xs us → Q us s') :
    PySem.W.StarOf (model X.prog X.w) X.A E (.ref a) Q s := by
  obtain ⟨its, r, pl, hz⟩ := I.list h
  obtain ⟨o, n, ho, hc, _, hd⟩ := pl
  have hl := r.length
  unfold PySem.W.StarOf notIterableAtAll
  refine wpAny_bind (wpAny_specialOf (show s.TypeIs (.ref a) "list" from ⟨o, ho, hc⟩) PySem.F.slot_list_iter.lookup (wpAny_pure ⟨rfl, wpAny_collect_seq a (.inl rfl) ho hc hd (fun h' hk => ?_) (by rw [List.size_toArray]; omega)⟩))
  have e : its.toArray.toList = its := by simp
  rw [e]
  exact hQ its _ (I.kept (t' := s.toks) hk) r
theorem pa_star {e : Expr} {es : List Expr} {te : TE} {t : TA} {p : Pos} (he : PE X e te) (ht : PA X es t) (hs : starEach (.Starred e p :: es) X.env = (true, eval e X.env) :: starEach es X.env := by rfl) : PA X (.Starred e p :: es) (tStar X.K te t) := by
  refine ⟨fun pos pins s σ H Q I h => PySem.W.items_star (thn (he.run pins s σ H _ I h) fun v s1 hv => ?_) hs⟩
  obtain ⟨x, H1, I1, rx, a, xs, ex, hq, q⟩ := hv
  subst ex
  cases (show v = Value.ref a from rx)
  have fin : ∀ us s2, Inv X pins σ H1 s2 → Vals xs us → wpAny (model X.prog X.w) X.A (spliced (backTo pos (starEach es X.env))) (fun vs s₃ => AP X pins σ Q (us ++ vs) s₃) X.xe s2 := fun us s2 I2 r =>
    thn (ht.run pos pins s2 σ H1 _ I2 q) fun ws s3 hw => let ⟨ys, H3, I3, r3, q3⟩ := hw; ⟨xs ++ ys, H3, I3, r.append r3, q3⟩
  rcases hq with hq | hq
  · exact star_tup I1 hq fin
  · exact star_lst I1 hq fin
end
end Mo
set_option Elab.async false
set_option linter.all false
set_option maxRecDepth 100000
set_option maxHeartbeats 4000000
/-! super().__init__(..) in an ordinary class -/
namespace Mo
open PySem PySem.Spec PyProof.Rows L2
structure SScope (N P : List Str) (sc : Scope) : Prop where
  kind : sc.kind = .function
  co : sc.isCoroutine = false
  gen : sc.isGenerator = false
  nd : N.Nodup
  pre : N.take P.length = P
  par : ∀ x ∈ P, sc.names.lookup x = some .local
  nocell : ∀ y ∈ sc.names, y.2 ≠ .cell
  free : ∀ y ∈ sc.names, y.2 = .free → y.1 = "__class__"
  sup : sc.names.lookup ("super" : Str) = some .globalImplicit
  cls : sc.names.lookup ("__class__" : Str) = some .free
/-- the context of such a def's body -/
def cxS (CX : CXT) (P : Program) (w : World) (K : PySem.W.Frag) (mg : Str → Option Value) (base : Heap) (N : List Str) (qual : Str) (scope : Scope) (f : Addr) (cd : Value) (cc : Addr) (A : Around) (outer : List Env) (s : Shared) (H : Hp) (E : XK) : Cx where
  prog := P
  w := w
  K := K
  mg := mg
  base := base
  A := A.deeper (PySem.W.ksEnv qual scope s.heap.objs.size f cd cc)
  N := N
  s_0 := s
  H_0 := H
  env := PySem.W.ksEnv qual scope s.heap.objs.size f cd cc
  outer := outer
  stack := PySem.W.ksEnv qual scope s.heap.objs.size f cd cc :: outer
  ex := []
  calm := true
  fn := fun _ => false
  pn := []
  xe := fun e s' => wpAny (model P w) (A.deeper (PySem.W.ksEnv qual scope s.heap.objs.size f cd cc)) (leaving (PySem.W.ksEnv qual scope s.heap.objs.size f cd cc) e) (fun _ s'' => CX outer H s E e s'') (fun e' s'' => CX outer H s E e' s'') s'
theorem lookup_rev_zip : ∀ {ps : List Str} {us : List Value} {i : Nat} {y : Str} {u : Value}, ps.Nodup → ps[i]? = some y → us[i]? = some u → (ps.zip us).reverse.lookup y = some u := by
  intro ps
  induction ps with
  | nil =>
    intro us i y u _ h _
    simp at h
  | cons p ps ih =>
    intro us i y u nd h1 h2
    cases us with
    | nil => simp at h2
    | cons v us =>
      have ndp := List.nodup_cons.mp nd
      rw [List.zip_cons_cons, List.reverse_cons, List.lookup_append]
      cases i with
      | zero =>
        simp at h1 h2
        subst h1 h2
        have e : (ps.zip us).reverse.lookup p = none := by
          rw [List.lookup_eq_none_iff]
          intro q hq
          have hq := List.mem_reverse.mp hq
          have hm := (List.of_mem_zip (show (q.1, q.2) ∈ ps.zip us from hq)).1
          have hne : p ≠ q.1 := by
            intro z
            rw [z] at ndp
            exact ndp.1 hm
          simp [hne]
        rw [e]
        simp
      | succ i =>
        rw [ih ndp.2 (by simpa using h1) (by simpa using h2)]
        rfl
theorem inv_startS {CX : CXT} {P : Program} {w : World} {K : PySem.W.Frag} {mg : Str → Option Value} {base : Heap} {N ps : List Str} {qual : Str} {scope : Scope} {f cc : Addr} {cd : Value} {A : Around} {outer : List Env} {s : Shared} {h₀ : Heap} {tk : Nat} {H : Hp} {E : XK} {us : List Value} {vs : List V}
    {oC : Obj} {cv : Option Value} (S : SScope N ps scope) (hd : A.handled = none) (e0 : Env0 P w K mg base A outer s H) (hl : vs.length = ps.length) (r : Vals vs us) (hcc : K.lookup cc = some oC) (hcv : oC.data = .cell cv)
    (hns : h₀.Ns s.heap.objs.size (fun x => (ps.zip us).reverse.lookup x)) (hk : ∀ b o, s.heap.get? b = some o → h₀.get? b = some o) :
    Inv (cxS CX P w K mg base N qual scope f cd cc A outer s H E) [] (start N vs) H { s with heap := h₀, toks := tk } := by
  have hpl : ps.length ≤ N.length := by have := congrArg List.length S.pre; rw [List.length_take] at this; omega
  have noA : ∀ b : Addr, b ∉ (cxS CX P w K mg base N qual scope f cd cc A outer s H E).ex := fun b z => absurd (show b ∈ ([] : List Addr) from z) (by simp)
  have hb := e0.mod.kin cc oC hcc
  have one : ∀ x c, [(("__class__" : Str), cc)].lookup x = some c → x = "__class__" ∧ c = cc := by
    intro x c h
    simp only [List.lookup_cons, List.lookup_nil] at h
    split at h
    · rename_i e
      cases h
      exact ⟨by simpa using e, rfl⟩
    · cases h
  refine ⟨⟨e0.mod, S.kind, rfl, rfl, Nat.le_refl _, fun y z c h1 h2 => ?_, fun y hy => ?_, (fun y c h => absurd (show false = true from h) Bool.false_ne_true), fun _ => hd, Around.frames_deeper e0.frames, .inr ⟨rfl, rfl⟩, fun b z => absurd z (noA b), e0.bs, e0.bsz, fun b _ _ => noA b, fun b z => absurd z (noA b), e0.funs, e0.frf⟩,
    rfl, e0.bare, Un.kept hk, ⟨_, hns, fun i y v h1 h2 h3 => ?_⟩, fun y c h => ?_, e0.hok.fresh (Nat.le_refl _), fun y c h => ?_, fun p hp => absurd (show p ∈ ([] : List (Addr × Obj)) from hp) (by simp), e0.hok.kept hk, ?_⟩
  · rw [(one y c h1).1, (one z c h2).1]
  · have hy : scope.names.lookup y = some .cell ∨ scope.names.lookup y = some .free := hy
    rcases hy with hy | hy
    · exact absurd rfl (S.nocell _ (PySem.mem_of_lookup hy))
    · have e := S.free _ (PySem.mem_of_lookup hy) rfl
      simp only at e
      subst e
      exact ⟨cc, rfl⟩
  · have hi : i < vs.length := by
      unfold L2.start at h2
      by_cases hi : i < vs.length
      · exact hi
      · rw [List.getElem?_append_right (by simpa using hi)] at h2
        rw [List.getElem?_replicate] at h2
        split at h2 <;> cases h2
    have ha : vs[i]? = some v := by
      unfold L2.start at h2
      rw [List.getElem?_append_left (by simpa using hi), List.getElem?_map] at h2
      cases e : vs[i]? with
      | none => rw [e] at h2; cases h2
      | some a => rw [e] at h2; cases h2; rfl
    obtain ⟨u, hu, rv⟩ := r.get ha
    have hp : ps[i]? = some y := by
      rw [← S.pre, List.getElem?_take_of_lt (by omega)]; exact h1
    have ndP : ps.Nodup := by rw [← S.pre]; exact S.nd.sublist (List.take_sublist _ _)
    exact ⟨u, rv, .inl ⟨S.par y (List.mem_of_getElem? hp), lookup_rev_zip ndP hp hu⟩⟩
  · obtain ⟨rfl, rfl⟩ := one y c h
    exact ⟨cv, oC, hk _ _ (e0.bs _ _ hb).1, hcv⟩
  · obtain ⟨rfl, rfl⟩ := one y c h
    exact (e0.bs _ _ hb).2
  · unfold L2.start
    show _ = N.length
    rw [List.length_append, List.length_map, List.length_replicate]
    omega
/-- statements of a def's body, run at the def's own place -/
def PSA (X : Cx) (b : List Stmt) (st : List Stmt) (t : TS) : Prop :=
  ∀ (pins : List (Addr × Obj)) (s : Shared) (σ : L2.St) (H : Hp) (D : Ends), Inv X pins σ H s → t D σ H → PySem.wpAt (model X.prog X.w) X.A (.func b X.env) (execs st X.env) (SP X pins D) X.xe s
section
variable {X : Cx} {b : List Stmt} {st : Stmt} {rest : List Stmt} {t u : TS}
theorem psa_any {l : List Stmt} (h : PSs X l t) : PSA X b l t := fun pins s σ H D I q => PySem.wpAt_of_wpAny (h.run pins s σ H D I q)
theorem psa_cons (h1 : PS X st t) (h2 : PSA X b rest u) : PSA X b (st :: rest) (tSeq t u) := by
  intro pins s σ H D I h
  refine PySem.ks_wpAt_execs_cons (PySem.wpAt_of_wpAny (thn (h1.run pins s σ H { D with nx := u D } I h) fun f s1 q => ?_))
  cases f with
  | next =>
    obtain ⟨σ', H', I', q⟩ := q
    exact h2 pins s1 σ' H' D I' q
  | ret v => exact q
  | brk => exact q
  | cont => exact q
/-- super().__init__(..): the next __init__ behind D -/
def sSuper (K : PySem.W.Frag) (D f2 : Addr) (sp : Sp) (E : XK) (t : TA) (u : TS) : TS := fun Dn σ H => ∃ (a C dx : Addr) (fs : List (Str × V)), σ[0]? = some (some (.ref a)) ∧ H a = some (.ins C dx fs) ∧ PySem.W.mroIn K C (.ref D) = some true ∧
  PySem.W.ks_superIn K C D "__init__" = some (some (.ref f2)) ∧ ∀ q, H q = none → t σ (upd H q (.met f2 a)) fun vs H1 => H1 q = some (.met f2 a) ∧ sp (.ref a :: vs) H1 (fun _ H2 => u Dn σ H2) E
theorem psa_super {p0 p1 apos pos pos2 : Pos} {e : Expr} {es : List Expr} {t : TA} {CX : CXT} {k : Nat} {f f2 cc cda D : Addr} {sp : Sp} {E : XK} {oc : Value} {od : Option Addr} {fd : FuncData} {osl : Array (Option Value)} {ar : Arg} {o2 oC : Obj} {vs : Array Value} {file : Str} {tf : Tok} {cdD : ClassData} {pl : Sem Bool}
    (F : FnR X.prog X.w X.K X.mg X.base CX k f2 sp) (hr : Room k X.A) (hx : Passes CX X E) (ha : PA X (e :: es) t) (h2 : PSA X b rest u)
    (hfu : X.env.func = some f) (hco : X.env.code = .ref cda) (hcl : X.env.cells.lookup ("__class__" : Str) = some cc) (hks : X.env.scope.names.lookup ("super" : Str) = some .globalImplicit) (hkc : X.env.scope.names.lookup ("__class__" : Str) = some .free)
    (hf : X.K.lookup f = some ⟨oc, od, .func fd, osl⟩) (hp : (fd.params.posonlyargs ++ fd.params.args).head? = some ar) (hN : X.N[0]? = some ar.arg) (hka : X.env.scope.names.lookup ar.arg = some .local)
    (hcode : X.K.lookup cda = some o2) (hoc : o2.data = .fields vs) (hvs : vs[2]? = some (.str file tf)) (hfile : ((X.prog.main.file : Str) == file) = true) (htop : (X.prog.main.scope.names.lookup ("super" : Str)).isSome = false)
    (hcell : X.K.lookup cc = some oC) (hcv : oC.data = .cell (some (.ref D))) (hD : PySem.W.clsIn X.K D = some cdD) (hsm : X.mg "super" = none) (hop : PySem.W.nsIn X.K cStatics "thirdparty.any" = some none)
    (hf2 : PySem.W.fnIn X.K f2 = true) (hft : PySem.W.typeIn X.K (.ref f2) = some (.type "function"))
    (hi : interactive X.env = false := by rfl) (hs : swapsWith (.Call (.Attribute (.Call (.Name "super" p0) [] [] p1) "__init__" apos) (e :: es) [] pos) none pos2.line X.env = pure false := by rfl)
    (he : eval (.Call (.Attribute (.Call (.Name "super" p0) [] [] p1) "__init__" apos) (e :: es) [] pos) X.env = (do
      let ov ← attributeBase (.Call (.Name "super" p0) [] [] p1) "__init__" X.env (eval (.Call (.Name "super" p0) [] [] p1) X.env)
      standAt apos.atName
      let (f, first) ← holding [ov] (getMethod ov "__init__" pl)
      callWith pos f first (backTo pos (starEach (e :: es) X.env)) []) := by rfl)
    (hst : starEach (e :: es) X.env = (false, eval e X.env) :: starEach es X.env := by rfl) (hpl : (backTo pos (starEach es X.env)).any (·.1) = false := by rfl) :
    PSA X b (.Expr (.Call (.Attribute (.Call (.Name "super" p0) [] [] p1) "__init__" apos) (e :: es) [] pos) pos2 :: rest) (sSuper X.K D f2 sp E t u) := by
  intro pins s σ H Dn I h
  obtain ⟨a, C, dx, fs, hσ, hA, hsub, hsup, h⟩ := h
  obtain ⟨m, ns, loc⟩ := I.loc
  obtain ⟨w0, rw0, lk⟩ := loc 0 ar.arg (.ref a) hN hσ (.inl hka)
  cases (show w0 = Value.ref a from rw0)
  have hv : m ar.arg = some (.ref a) := by
    rcases lk with ⟨_, q⟩ | ⟨q, _⟩
    · exact q
    · exfalso
      have hka : X.env.kindOf ar.arg = some .local := hka
      rw [hka] at q
      rcases q with q | q <;> cases q
  obtain ⟨mA, O, _⟩ := ins_get I.hok hA
  obtain ⟨od', J, _⟩ := O.look
  have KX : X.K.In s.heap := I.kIn
  refine PySem.ks_wpAt_execs_cons (PySem.ks_wpAt_Expr_any (PySem.ks_wpAt_MethodCall (pl := pl) ?_ he) hi hs)
  refine PySem.ks_wpAt_super_base (env := X.env) hks hkc (by decide) hfu (KX _ _ hf) rfl hp hco (KX _ _ hcode) hoc hvs hfile htop ?_
  obtain ⟨mb, g1, g2⟩ := I.mod.blt
  refine PySem.W.ks_loadName_global I.ok.kind hks (Calls.loadGlobal_builtin (by rw [I.ok.glob]; exact I.mod.glob.keeps I.bk) hsm (by rw [I.ok.blt]; exact g1.keeps I.bk) ((g2 "super" (by decide)).trans (show bootBuiltins "super" = some (.type "super") by decide +kernel)) ⟨rfl, ?_⟩)
  refine wpAny_loadName_free I.ok.kind hkc hcl ⟨_, KX _ _ hcell, hcv⟩ ?_
  refine wpAny_loadName_local I.ok.kind hka ns hv ?_
  obtain ⟨oD, hD1, hD2⟩ : ∃ oD, s.heap.get? D = some oD ∧ oD.data = .cls cdD := by
    unfold PySem.W.clsIn at hD
    split at hD
    · rename_i c d cd' sl ho
      cases hD
      exact ⟨_, KX _ _ ho, rfl⟩
    · cases hD
  obtain ⟨hh, gg, dd, tk, os⟩ := s
  refine PySem.ks_wpAny_isType_cls hD1 hD2 ⟨rfl, ?_⟩
  refine PySem.ks_wpAny_call_super hD1 hD2 J.at_ J.cls (fun c e => ?_) (PySem.W.looks_mroIn KX hsub) (fun h' e1 k1 => ?_)
  · have := J.no
    unfold PySem.W.notCls at this
    rw [e] at this
    exact Bool.noConfusion this
  have I1 : Inv X pins σ H ⟨h', gg, dd, tk, os⟩ := I.kept (t' := tk) k1
  have KX1 : X.K.In h' := I1.kIn
  obtain ⟨mA1, O1, _⟩ := ins_get I1.hok hA
  obtain ⟨od1, J1, _⟩ := O1.look
  cases hc : PySem.W.clsIn X.K C with
  | none =>
    unfold PySem.W.ks_superIn at hsup
    rw [hc] at hsup
    cases hsup
  | some cd =>
    unfold PySem.W.ks_superIn at hsup
    rw [hc] at hsup
    obtain ⟨of, hof, hofc⟩ : ∃ of, h'.get? f2 = some of ∧ of.cls = .type "function" := by
      have ht' : (X.K.lookup f2).map (·.cls) = some (.type "function") := hft
      cases z : X.K.lookup f2 with
      | none => rw [z] at ht'; cases ht'
      | some of => rw [z] at ht'; exact ⟨of, KX1 _ _ z, Option.some.inj ht'⟩
    refine PySem.ks_wpAny_getMethod_super e1 (PySem.W.looks_opaque KX1 hop) (l₀ := cd.mro) ?_ rfl KX1 hsup hof hofc (PySem.W.ks_ne KX1 J1 hc) (by decide) ?_
    · exact fun A Q E s k q => wpAny_bind ((PySem.W.looks_clsIn KX1 hc) A _ E s k (wpAny_pure q))
    have hq0 : H h'.objs.size = none := I1.hok.fresh (Nat.le_refl _)
    have I2 : Inv X pins σ (upd H h'.objs.size (.met f2 a)) ⟨h'.push (PySem.W.methodObj (.ref f2) (.ref a)), gg, dd, tk + 1, os⟩ :=
      I1.laid (t' := tk + 1) (a := h'.objs.size) (o := .met f2 a) (fun b u z => Heap.get?_push_of_some _ z) (Nat.le_refl _) (show (h'.push (PySem.W.methodObj (.ref f2) (.ref a))).get? h'.objs.size = some (PySem.W.methodObj (.ref f2) (.ref a)) from Heap.get?_push_size h' rfl)
    have hA2 := ha.run pos pins _ σ _ _ I2 (h h'.objs.size hq0)
    show wpAny (model X.prog X.w) X.A (callWith pos (.ref h'.objs.size) [] (backTo pos (starEach (e :: es) X.env)) []) _ _ _
    rw [hst] at hA2 ⊢
    refine callwith_met (X := X) (g := f2) (a := a) (by show ((false || (backTo pos (starEach es X.env)).any (·.1)) || false) = false; rw [hpl]; rfl) hf2 (Calls.evalArgs_plain ?_)
    refine thn hA2 fun us s3 ⟨vs3, H3, I3, r3, hm3, q3⟩ => ⟨met_P I3 hm3, ?_⟩
    refine wpAny_call (PySem.W.method_call (met_P I3 hm3).1 (codeAny_mono (run_fnR (us := .ref a :: us) (vs := .ref a :: vs3) F hr hx I3 (.cons rfl r3) q3) fun r s' hr' => ?_))
    match r, hr' with
    | .error e, hr' => exact hr'
    | .ok (.ret v), hr' =>
      obtain ⟨v', H', I', rv, q⟩ := hr'
      exact h2 pins s' σ H' Dn I' q
    | .ok .next, hr' => exact hr'.elim
    | .ok .brk, hr' => exact hr'.elim
    | .ok .cont, hr' => exact hr'.elim
end
/-- THE RULE: a def that says super(), by its body -/
theorem fnS_of {CX : CXT} {P : Program} {w : World} {K : PySem.W.Frag} {mg : Str → Option Value} {base : Heap} {k : Nat} {f cc : Addr} {name qual : Str} {params : Arguments} {body : List Stmt} {scope : Scope}
    {dV kV doc pm cdv ct oc : Value} {an od : Option Addr} {osl : Array (Option Value)} {N ps : List Str} {sp : Sp} {oC : Obj} {cv : Option Value}
    (lk : K.lookup f = some ⟨oc, od, .func (PySem.W.ksFn name qual params body scope dV kV doc pm an cdv ct cc), osl⟩) (hcd : PySem.W.codeIn K cdv qual = true) (hcc : K.lookup cc = some oC) (hcv : oC.data = .cell cv)
    (S : SScope N ps scope) (len : ∀ vs H Q E, sp vs H Q E → vs.length = ps.length)
    (hb : ∀ (A : Around) (outer : List Env) (s : Shared) (H : Hp) (vs : List V) (Q : VK) (E : XK), Room k (A.deeper (PySem.W.ksEnv qual scope s.heap.objs.size f cdv cc)) → sp vs H Q E →
      ∃ t, PSA (cxS CX P w K mg base N qual scope f cdv cc A outer s H E) body body t ∧ t { nx := fun _ H' => Q .non H', rt := Q } (L2.start N vs) H) :
    FnOk P w K mg base CX (k + 1) f (PySem.W.ksFn name qual params body scope dV kV doc pm an cdv ct cc) ps sp := by
  refine ⟨len, fun A outer s H args us vs Q E hr e0 bnd rel wish => ?_⟩
  have okK : K.In s.heap := e0.mod.kin.keeps fun b o e => (e0.bs b o e).1
  have okL : s.heap.NoLimit := e0.mod.nolimit.keeps fun b o e => (e0.bs b o e).1
  refine PySem.ks_codeAny_call_defAt (fd := PySem.W.ksFn name qual params body scope dV kV doc pm an cdv ct cc) (body := body) (binds := ps.zip us) hr.depth (okK _ _ lk) rfl okL (PySem.W.codeRec_of okK hcd) rfl bnd S.nocell (fun y hy => S.par y.1 (List.of_mem_zip (show (y.1, y.2) ∈ ps.zip us from hy)).1) (fun h₀ hns hk => ?_) S.co S.gen S.kind
  obtain ⟨t, ht, hq⟩ := hb A outer s H vs Q E (hr.deeper _) wish
  have J := inv_startS (CX := CX) (E := E) (qual := qual) (f := f) (cd := cdv) (tk := s.toks + (ps.zip us).length) S hr.hd e0 (len _ _ _ _ wish) rel hcc hcv hns hk
  refine PySem.ks_wpAt_mono (ht [] _ (L2.start N vs) H _ J hq) ?_ (fun e s' hs => hs)
  intro fl s' hs
  match fl, hs with
  | .ret u, ⟨v, σ', H', J', rv, q⟩ => exact ⟨v, H', J'.os, J'.bare, J'.base, J'.hok, rv, q⟩
  | .next, ⟨σ', H', J', q⟩ => exact ⟨V.non, H', J'.os, J'.bare, J'.base, J'.hok, rfl, q⟩
  | .brk, ⟨_, _, _, q⟩ => exact q.elim
  | .cont, ⟨_, _, _, q⟩ => exact q.elim
theorem PSA.nox {X : Cx} {b : List Stmt} {st : List Stmt} {t : TS} (h : PSA X.nox b st t) : PSA X b st t := fun pins s σ H D I q =>
  PySem.ks_wpAt_mono (h pins s σ H D (I.wish _) q) (fun _ _ q => q.unwish) fun _ _ z => False.elim z
/-- a method that says super(), as it stands behind the top; cc its cell, D its class -/
structure SFun (P : Program) (K : PySem.W.Frag) (x qual : Str) (st : Stmt) (f : Addr) (fd : FuncData) (cc D : Addr) : Prop where
  ex : ∃ (oc : Value) (od : Option Addr) (dV kV doc pm : Value) (an : Option Addr) (cda : Addr) (ct : Value) (osl : Array (Option Value)), fd = PySem.W.ksFn x qual (defArgs st) (defBody st) (defScope st) dV kV doc pm an (.ref cda) ct cc ∧
    K.lookup f = some ⟨oc, od, .func fd, osl⟩ ∧ PySem.W.codeIn K (.ref cda) qual = true ∧ ∃ o2 vs file tf, K.lookup cda = some o2 ∧ o2.data = .fields vs ∧ vs[2]? = some (.str file tf) ∧ ((P.main.file : Str) == file) = true
  cell : ∃ oC, K.lookup cc = some oC ∧ oC.data = .cell (some (.ref D))
  cls : ∃ cd, PySem.W.clsIn K D = some cd
  top : (P.main.scope.names.lookup ("super" : Str)).isSome = false
  opq : PySem.W.nsIn K cStatics "thirdparty.any" = some none
/-- what psa_super asks of the place -/
structure SuperAt (X : Cx) (D : Addr) : Prop where
  run : ∀ {p0 p1 apos pos pos2 : Pos} {e : Expr} {es : List Expr} {t : TA} {CX : CXT} {k : Nat} {f2 : Addr} {sp : Sp} {E : XK} {b rest : List Stmt} {u : TS} {pl : Sem Bool}
    (F : FnR X.prog X.w X.K X.mg X.base CX k f2 sp) (hr : Room k X.A) (hx : Passes CX X E) (ha : PA X (e :: es) t) (h2 : PSA X b rest u) (hsm : X.mg "super" = none)
    (hf2 : PySem.W.fnIn X.K f2 = true) (hft : PySem.W.typeIn X.K (.ref f2) = some (.type "function"))
    (hi : interactive X.env = false) (hs : swapsWith (.Call (.Attribute (.Call (.Name "super" p0) [] [] p1) "__init__" apos) (e :: es) [] pos) none pos2.line X.env = pure false)
    (he : eval (.Call (.Attribute (.Call (.Name "super" p0) [] [] p1) "__init__" apos) (e :: es) [] pos) X.env = (do
      let ov ← attributeBase (.Call (.Name "super" p0) [] [] p1) "__init__" X.env (eval (.Call (.Name "super" p0) [] [] p1) X.env)
      standAt apos.atName
      let (f, first) ← holding [ov] (getMethod ov "__init__" pl)
      callWith pos f first (backTo pos (starEach (e :: es) X.env)) []))
    (hst : starEach (e :: es) X.env = (false, eval e X.env) :: starEach es X.env) (hpl : (backTo pos (starEach es X.env)).any (·.1) = false),
    PSA X b (.Expr (.Call (.Attribute (.Call (.Name "super" p0) [] [] p1) "__init__" apos) (e :: es) [] pos) pos2 :: rest) (sSuper X.K D f2 sp E t u)
theorem psa_sup {X : Cx} {D : Addr} (S : SuperAt X D) {p0 p1 apos pos pos2 : Pos} {e : Expr} {es : List Expr} {t : TA} {CX : CXT} {k : Nat} {f2 : Addr} {sp : Sp} {E : XK} {b rest : List Stmt} {u : TS} {pl : Sem Bool}
    (F : FnR X.prog X.w X.K X.mg X.base CX k f2 sp) (hr : Room k X.A) (hx : Passes CX X E) (ha : PA X (e :: es) t) (h2 : PSA X b rest u) (hsm : X.mg "super" = none)
    (hf2 : PySem.W.fnIn X.K f2 = true) (hft : PySem.W.typeIn X.K (.ref f2) = some (.type "function"))
    (hi : interactive X.env = false := by rfl) (hs : swapsWith (.Call (.Attribute (.Call (.Name "super" p0) [] [] p1) "__init__" apos) (e :: es) [] pos) none pos2.line X.env = pure false := by rfl)
    (he : eval (.Call (.Attribute (.Call (.Name "super" p0) [] [] p1) "__init__" apos) (e :: es) [] pos) X.env = (do
      let ov ← attributeBase (.Call (.Name "super" p0) [] [] p1) "__init__" X.env (eval (.Call (.Name "super" p0) [] [] p1) X.env)
      standAt apos.atName
      let (f, first) ← holding [ov] (getMethod ov "__init__" pl)
      callWith pos f first (backTo pos (starEach (e :: es) X.env)) []) := by rfl)
    (hst : starEach (e :: es) X.env = (false, eval e X.env) :: starEach es X.env := by rfl) (hpl : (backTo pos (starEach es X.env)).any (·.1) = false := by rfl) :
    PSA X b (.Expr (.Call (.Attribute (.Call (.Name "super" p0) [] [] p1) "__init__" apos) (e :: es) [] pos) pos2 :: rest) (sSuper X.K D f2 sp E t u) := S.run F hr hx ha h2 hsm hf2 hft hi hs he hst hpl
/-- a method that says super() and lets no exception out -/
theorem SFun.ok {P : Program} {w : World} {K : PySem.W.Frag} {mg : Str → Option Value} {base : Heap} {x qual : Str} {st : Stmt} {f cc D : Addr} {fd : FuncData} {N ps : List Str} {k : Nat} {sp : Sp} {ar : Arg} (F : SFun P K x qual st f fd cc D) (S : SScope N ps (defScope st))
    (har : ((defArgs st).posonlyargs ++ (defArgs st).args).head? = some ar) (h0 : N[0]? = some ar.arg) (hl : (defScope st).names.lookup ar.arg = some .local) (len : ∀ vs H Q E, sp vs H Q E → vs.length = ps.length)
    (hb : ∀ (cdv : Value) (A : Around) (outer : List Env) (s : Shared) (H : Hp) (vs : List V) (Q : VK) (E : XK), Room k (A.deeper (PySem.W.ksEnv qual (defScope st) s.heap.objs.size f cdv cc)) →
      SuperAt (cxS CX0 P w K mg base N qual (defScope st) f cdv cc A outer s H E).nox D → sp vs H Q E →
      ∃ t, PSA (cxS CX0 P w K mg base N qual (defScope st) f cdv cc A outer s H E).nox (defBody st) (defBody st) t ∧ t { nx := fun _ H' => Q .non H', rt := Q } (L2.start N vs) H) :
    FnOk P w K mg base CX0 (k + 1) f fd ps sp := by
  obtain ⟨oc, od, dV, kV, doc, pm, an, cda, ct, osl, rfl, lk, hcd, o2, vs2, file, tf, h1, h2, h3, h4⟩ := F.ex
  obtain ⟨oC, c1, c2⟩ := F.cell
  obtain ⟨cdD, hD⟩ := F.cls
  refine fnS_of lk hcd c1 c2 S len ?_
  intro A outer s H vs Q E hr hsp
  obtain ⟨t, h, q⟩ := hb (.ref cda) A outer s H vs Q E hr ⟨fun F2 hr2 hx ha hu hsm hf2 hft hi hs he hst hpl => psa_super F2 hr2 hx ha hu rfl rfl rfl S.sup S.cls lk har h0 hl h1 h2 h3 h4 F.top c1 c2 hD hsm F.opq hf2 hft hi hs he hst hpl⟩ hsp
  exact ⟨t, h.nox, q⟩
end Mo
set_option Elab.async false
set_option linter.all false
set_option maxRecDepth 100000
set_option maxHeartbeats 4000000
/-! own classes in a family: what holds of each class of it -/
namespace Mo
open PySem PySem.Spec PyProof.Rows L2
theorem kit_of_subR {K : PySem.W.Frag} {C : Addr} {t : Value} {b : Bool} (ci : PySem.W.isClsIn K C = true) (tc : PySem.W.typeIn K (.ref C) = some (.type "type")) (sb : PySem.W.subIn K t (.ref C) = some b) (hne : (t == Value.ref C) = false) : PySem.W.kitOne K t (.ref C) = some b := by
  unfold PySem.W.kitOne
  rw [hne, if_neg Bool.false_ne_true]
  show (if ((PySem.W.clsIn K C).isSome && PySem.W.typeIn K (.ref C) == some (.type "type")) = true then PySem.W.subIn K t (.ref C) else none) = some b
  rw [tc, show (PySem.W.clsIn K C).isSome = true from ci]
  exact sb
/-- what is asked of each class of a family -/
structure FamC (K : PySem.W.Frag) (C : Addr) (attrs : List Str) : Prop where
  cl : Cls K C
  mo : PySem.W.mroIn K C (.type "object") = some true
  na : ∀ f ∈ attrs, NoAttr K C f
  ty : ∀ (H : Hp) (a dx : Addr) (fs : List (Str × V)), H a = some (.ins C dx fs) → TyX K H (.ref a) (.ref C)
  ne : PySem.W.findIn K (.ref C) "__ne__" = some (some (.builtin "object.__ne__"))
  nf7 : ∀ n : Ty7, PySem.W.notFirst K C (.type n.nm) = true
  ki7 : ∀ n : Ty7, PySem.W.kitOne K (.type n.nm) (.ref C) = some false
  ci : PySem.W.isClsIn K C = true
  tc : PySem.W.typeIn K (.ref C) = some (.type "type")
def seven : List String := ["NoneType", "bool", "int", "str", "tuple", "list", "dict"]
theorem nm_seven (n : Ty7) : n.nm ∈ seven := by cases n <;> decide
/-- all of it as one truth -/
def famChk (K : PySem.W.Frag) (C : Addr) (attrs : List Str) : Bool :=
  PySem.W.plainGet K C Str.empty && PySem.W.hasDictIn K C && PySem.W.plainOver K C && (PySem.W.findIn K (.ref C) "__setattr__" == some (some (.builtin "object.__setattr__"))) && (PySem.W.mroIn K C (.type "object") == some true) &&
  attrs.all (fun f => PySem.W.findIn K (.ref C) f == some none) && (PySem.W.findIn K (.ref C) "__ne__" == some (some (.builtin "object.__ne__"))) && (PySem.W.findIn K (.ref C) "__class__" == some (some (.builtin "object.__class__"))) &&
  seven.all (fun n => PySem.W.notFirst K C (.type n) && (PySem.W.subIn K (.type n) (.ref C) == some false)) && PySem.W.isClsIn K C && (PySem.W.typeIn K (.ref C) == some (.type "type"))
theorem famC_of {K : PySem.W.Frag} {C : Addr} {attrs : List Str} (h : famChk K C attrs = true) (xg : PySem.W.specialIn K (.builtin "object.__class__") "__get__" = some (some (.builtin "getset_descriptor.__get__"))) (xt : PySem.W.takesIn K (.builtin "object.__class__") = some true) : FamC K C attrs := by
  unfold famChk at h
  simp only [Bool.and_eq_true] at h
  obtain ⟨⟨⟨⟨⟨⟨⟨⟨⟨⟨h1, h2⟩, h3⟩, h4⟩, h5⟩, h6⟩, h7⟩, h8⟩, h9⟩, h10⟩, h11⟩ := h
  have h4 := beq_iff_eq.mp h4
  have h5 := beq_iff_eq.mp h5
  have h7 := beq_iff_eq.mp h7
  have h8 := beq_iff_eq.mp h8
  have h11 := beq_iff_eq.mp h11
  have c : Cls K C := ⟨h1, h2, h3, h4⟩
  have sv : ∀ n : Ty7, PySem.W.notFirst K C (.type n.nm) = true ∧ PySem.W.subIn K (.type n.nm) (.ref C) = some false := by
    intro n
    have := List.all_eq_true.mp h9 _ (nm_seven n)
    rw [Bool.and_eq_true] at this
    exact ⟨this.1, beq_iff_eq.mp this.2⟩
  exact ⟨c, h5, fun f hf => beq_iff_eq.mp (List.all_eq_true.mp h6 f hf), fun H a dx fs h => .base (.ins h c h8 xg xt h5), h7, fun n => (sv n).1, fun n => kit_of_sub h10 h11 (sv n).2, h10, h11⟩
/-- the classes of a family, one beside the other -/
def tabChk (K : PySem.W.Frag) (cs : List Addr) : Bool := (List.range cs.length).all fun i => (List.range cs.length).all fun j => (PySem.W.subIn K (.ref (cs.getD i 0)) (.ref (cs.getD j 0)) == some (i == j)) && ((cs.getD i 0 == cs.getD j 0) == (i == j)) && PySem.W.notFirst K (cs.getD i 0) (.ref (cs.getD j 0))
theorem tab_of {K : PySem.W.Frag} {cs : List Addr} {attrs : List Str} (h : tabChk K cs = true) (hc : ∀ C ∈ cs, FamC K C attrs) : ∀ (i j : Nat) (C D : Addr), cs[i]? = some C → cs[j]? = some D → PySem.W.kitOne K (.ref C) (.ref D) = some (i == j) ∧ PySem.W.notFirst K C (.ref D) = true := by
  intro i j C D hi hj
  have h := List.all_eq_true.mp (List.all_eq_true.mp h i (List.mem_range.mpr (List.getElem?_eq_some_iff.mp hi).1)) j (List.mem_range.mpr (List.getElem?_eq_some_iff.mp hj).1)
  have e1 : cs.getD i 0 = C := by simp [List.getD, hi]
  have e2 : cs.getD j 0 = D := by simp [List.getD, hj]
  rw [e1, e2] at h
  simp only [Bool.and_eq_true] at h
  obtain ⟨⟨h1, h2⟩, h3⟩ := h
  refine ⟨?_, h3⟩
  have h1 := beq_iff_eq.mp h1
  have h2 := beq_iff_eq.mp h2
  have fc := hc D (List.mem_of_getElem? hj)
  cases e : (i == j) with
  | true =>
    rw [e] at h2
    have : C = D := beq_iff_eq.mp h2
    subst this
    exact kit_self _
  | false =>
    rw [e] at h1 h2
    refine kit_of_subR fc.ci fc.tc h1 ?_
    cases z : (Value.ref C == Value.ref D) with
    | false => rfl
    | true =>
      have z := beq_iff_eq.mp z
      injection z with z
      subst z
      simp at h2
section
variable {X : Cx} {CX : CXT} {k : Nat} {f : Addr} {fd : FuncData} {ps : List Str} {sp : Sp} {E : XK} {CC : Addr → Prop}
/-- e.f, a property of each class of a family -/
def tPropF (CC : Addr → Prop) (sp : Sp) (E : XK) (ta : TE) : TE := fun σ H Q => ta σ H fun x H1 => ∃ a C dx fs, x = .ref a ∧ CC C ∧ H1 a = some (.ins C dx fs) ∧ sp [.ref a] H1 Q E
theorem pe_propF {e : Expr} {ta : TE} {n : Str} {p : Addr} {pos : Pos} (he : PE X e ta) (hC : ∀ C, CC C → Cls X.K C ∧ PropOf X.K C n p f) (F : FnOk X.prog X.w X.K X.mg X.base CX k f fd ps sp) (hr : Room (k + 1) X.A) (hb : Binds X.K fd ps []) (hx : Passes CX X.nox E)
    (hab : attributeBase e n X.env (eval e X.env) = eval e X.env := by rfl) : PE X (.Attribute e n pos) (tPropF CC sp E ta) := by
  refine ⟨fun pins s σ H Q I h => ?_⟩
  refine attr_of hab (thn (he.run pins s σ H _ I h) fun u s1 ⟨x, H1, I1, rx, a, C, dx, fs, ex, hc, ea, q⟩ => ?_)
  subst ex
  obtain rfl : u = Value.ref a := rx
  exact getprop_ok (dvs := []) (ds := []) I1 ea (hC C hc).1 (hC C hc).2 F hr hb .nil hx q
/-- repr(o) by the own __repr__ -/
theorem call_reprF (F : FnOk X.prog X.w X.K X.mg X.base CX k f fd ps sp) (hr : Room (k + 1) X.A) (S : ∀ C, CC C → Spc X.K C "__repr__" f) (hb : Binds X.K fd ps []) (hx : Passes CX X E) :
    CallR X (.builtin "repr") (fun xs H Q => ∃ a C dx fs, xs = [.ref a] ∧ CC C ∧ H a = some (.ins C dx fs) ∧ sp [.ref a] H (fun v H' => ∃ z : Str, v = .str z ∧ Q v H') E) := by
  intro pins s σ H xs us Q I r h
  obtain ⟨a, C, dx, fs, rfl, hc, ha, h⟩ := h
  exact call_reprO F hr (S C hc) hb hx pins s σ H _ us Q I r ⟨a, dx, fs, rfl, ha, h⟩
/-- str(o) by the own __str__ -/
theorem call_strF (F : FnOk X.prog X.w X.K X.mg X.base CX k f fd ps sp) (hr : Room (k + 2) X.A) (S : ∀ C, CC C → Spc X.K C "__str__" f) (hb : Binds X.K fd ps []) (hx : Passes CX X E) :
    CallR X (.type "str") (fun xs H Q => ∃ a C dx fs, xs = [.ref a] ∧ CC C ∧ H a = some (.ins C dx fs) ∧ sp [.ref a] H (fun v H' => ∃ z : Str, v = .str z ∧ Q v H') E) := by
  intro pins s σ H xs us Q I r h
  obtain ⟨a, C, dx, fs, rfl, hc, ha, h⟩ := h
  obtain ⟨u, rfl, ru⟩ := vals1 r
  cases ru
  obtain ⟨mA, J, _⟩ := ins_get I.hok ha
  obtain ⟨od, J, _⟩ := J.look
  have hr2 : Room k X.A.in1.in1 := (show Room (k + 1) X.A.in1 from Room.in1 hr).in1
  refine PySem.W.kso_call hr2.units0 I.kIn J (S C hc).at_ (S C hc).fn ?_
  refine wpAny_mono (run_under (A := X.A.in1.in1) (vs := [.ref a]) F hr2 rfl hb hx I (.cons rfl .nil) h) (fun v s' hv => ?_) fun _ _ e => e
  obtain ⟨v', H', I', rv, z, rfl, q⟩ := hv
  obtain ⟨t, rfl⟩ := rv
  exact ⟨.str z, H', I', ⟨t, rfl⟩, q⟩
def rEqF (K : PySem.W.Frag) (CC : Addr → Prop) (sp : Sp) (E : XK) (g : Bool → Bool) : R2 := fun x y H Q => ∃ a C dx fs t, x = .ref a ∧ CC C ∧ H a = some (.ins C dx fs) ∧ TyX K H y t ∧ PySem.W.notFirst K C t = true ∧
  sp [x, y] H (fun v H' => ∃ b, v = .bl b ∧ Q (.bl (g b)) H') E
theorem op_eqF (F : FnOk X.prog X.w X.K X.mg X.base CX k f fd ps sp) (hr : Room k X.A) (S : ∀ C, CC C → Spc X.K C "__eq__" f) (hb : Binds X.K fd ps []) (hx : Passes CX X E) : OpR X (compareOp .Eq) (rEqF X.K CC sp E id) := by
  intro pins s σ H x y v u Q I rx ry h
  obtain ⟨a, C, dx, fs, t, rfl, hc, h⟩ := h
  exact op_eqO F hr (S C hc) hb hx pins s σ H _ y v u Q I rx ry ⟨a, dx, fs, t, rfl, h⟩
theorem op_neF (F : FnOk X.prog X.w X.K X.mg X.base CX k f fd ps sp) (hr : Room (k + 1) X.A) (S : ∀ C, CC C → Spc X.K C "__eq__" f ∧ PySem.W.findIn X.K (.ref C) "__ne__" = some (some (.builtin "object.__ne__")) ∧ PySem.W.mroIn X.K C (.type "object") = some true)
    (hb : Binds X.K fd ps []) (hx : Passes CX X E) : OpR X (compareOp .NotEq) (rEqF X.K CC sp E not) := by
  intro pins s σ H x y v u Q I rx ry h
  obtain ⟨a, C, dx, fs, t, rfl, hc, h⟩ := h
  obtain ⟨h1, h2, h3⟩ := S C hc
  exact op_neO F hr h1 h2 h3 hb hx pins s σ H _ y v u Q I rx ry ⟨a, dx, fs, t, rfl, h⟩
end
/-! ### defaults -/
theorem bindsD {K : PySem.W.Frag} {fd : FuncData} {T : Addr} {o : Obj} {its : List Value} {m n j : Nat} {ps : List Str} (lT : K.lookup T = some o) (oT : o.data = .seq its.toArray m) (hn : n + (its.length - j) = ps.length)
    (h : ∀ us : List Value, us.length = n → ∃ k, bindArgs fd ⟨us, []⟩ = seqItems? (.ref T) >>= k ∧ k (some its.toArray) = pure (ps.zip (us ++ its.drop j))) : Binds K fd ps (its.drop j) := by
  intro s us X hlen
  have l2 : us.length = n := by
    rw [List.length_append, List.length_drop] at hlen
    omega
  obtain ⟨k, e1, e2⟩ := h us l2
  refine BindsTo.of_looks fun M => ?_
  rw [e1]
  exact looks_items X lT oT (.of_pure e2)
end Mo
namespace Mo
open PySem PySem.Spec PyProof.Rows L2
theorem sub_of {K : PySem.W.Frag} {C B : Addr} {attrs : List Str} (hb : famChk K B attrs = true) (h : ((PySem.W.mroIn K C (.ref B) == some true) && ((PySem.W.subIn K (.ref C) (.ref B) == some true) && (C != B))) = true) :
    PySem.W.mroIn K C (.ref B) = some true ∧ PySem.W.kitOne K (.ref C) (.ref B) = some true := by
  simp only [Bool.and_eq_true] at h
  obtain ⟨h1, h2, h3⟩ := h
  unfold famChk at hb
  simp only [Bool.and_eq_true] at hb
  refine ⟨beq_iff_eq.mp h1, kit_of_subR hb.1.2 (beq_iff_eq.mp hb.2) (beq_iff_eq.mp h2) ?_⟩
  cases z : (Value.ref C == Value.ref B) with
  | false => rfl
  | true =>
    have z := beq_iff_eq.mp z
    injection z with z
    subst z
    simp at h3
theorem cread_of {K : PySem.W.Frag} {C : Addr} (h : (PySem.W.readsIn K C (.type "type") && (PySem.W.specialIn K (.ref C) "__getattribute__" == some (some (.builtin "type.__getattribute__")))) = true) : ClX.CRead K C (.type "type") := by
  rw [Bool.and_eq_true] at h
  exact ⟨h.1, beq_iff_eq.mp h.2⟩
/-- a def or method with defaults, as it stands behind the top -/
structure FunV (K : PySem.W.Frag) (x qual : Str) (st : Stmt) (dV : Value) (f : Addr) (fd : FuncData) : Prop where
  ex : ∃ (oc : Value) (od : Option Addr) (kV doc pm : Value) (an : Option Addr) (cdv ct : Value) (osl : Array (Option Value)),
    fd = PySem.W.fnOf x qual (defArgs st) (defBody st) (defScope st) dV kV doc pm an cdv ct ∧ K.lookup f = some ⟨oc, od, .func fd, osl⟩ ∧ PySem.W.codeIn K cdv qual = true
  kp : PySem.W.keepIn K (.ref f) = true
theorem FunV.ok {P : Program} {w : World} {K : PySem.W.Frag} {mg : Str → Option Value} {base : Heap} {x qual : Str} {st : Stmt} {dV : Value} {f : Addr} {fd : FuncData} {N ps : List Str} {k : Nat} {sp : Sp} (F : FunV K x qual st dV f fd) (S : FnScope N ps (defScope st)) (len : ∀ vs H Q E, sp vs H Q E → vs.length = ps.length)
    (hbody : ∀ (cdv : Value) (A : Around) (outer : List Env) (s : Shared) (H : Hp) (vs : List V) (Q : VK) (E : XK), Room k (A.deeper (envOfC qual (defScope st) s.heap.objs.size f cdv)) → sp vs H Q E →
      ∃ t, PSs (cxOf CX0 P w K mg base N qual (defScope st) f cdv A outer s H E).nox (defBody st) t ∧ t { nx := fun _ H' => Q .non H', rt := Q } (L2.start N vs) H) : FnOk P w K mg base CX0 (k + 1) f fd ps sp := by
  obtain ⟨oc, od, kV, doc, pm, an, cdv, ct, osl, rfl, lk, hcd⟩ := F.ex
  refine fn_of lk hcd S len fun A outer s H vs Q E hr hsp => ?_
  obtain ⟨t, h, q⟩ := hbody cdv A outer s H vs Q E hr hsp
  exact ⟨t, h.nox, q⟩
/-- an expression that is never reached -/
theorem pe_never {X : Cx} {e : Expr} : PE X e (fun _ _ _ => False) := ⟨fun _ _ _ _ _ _ h => h.elim⟩
end Mo
namespace Mo
open PySem PySem.Spec PyProof.Rows L2
section
variable {J : It} {n : Nat} {G : Hp → Prop} {Y : Nat → Hp → V → Hp → Prop}
/-- the inner loop of a comprehension of two fors -/
theorem in_it (w : Walk J n G Y) {g : TG} {tt : TT} {te : TE} {vs : List Nat} {σ : L2.St} {H1 : Hp} {D : Addr} {Qd : Hp → Prop} (Pv : Nat → Hp → Prop) (h0 : Pv 0 H1) (hG : ∀ i H, i ≤ n → Pv i H → G H)
    (hs : ∀ i x H H', i < n → Pv i H → Y i H x H' → g x (wipe σ vs) H' fun σ2 H2 => wipe σ2 vs = wipe σ vs ∧ tt σ2 H2 fun b H3 =>
      if b = true then te σ2 H3 fun y H4 => ∃ acc, H4 D = some (.lst acc) ∧ acc.length < sizeLine ∧ Pv (i + 1) (upd H4 D (.lst (acc ++ [y]))) else Pv (i + 1) H3) (hd : ∀ H, Pv n H → Qd H) :
    ∃ W : Nat → Nat → Hp → Prop, (∃ m, W 0 m H1) ∧ ∀ i m H, W i m H →
      (J.stop i H ∧ Qd H) ∨ (J.go i H ∧ ∃ Nx : Hp → Prop, (∀ H', Nx H' → ∃ m', m' < m ∧ W (i + 1) m' H') ∧ ∀ x H', J.yld i H x H' → g x (wipe σ vs) H' fun σ2 H2 => wipe σ2 vs = wipe σ vs ∧ tt σ2 H2 fun b H3 =>
        if b = true then te σ2 H3 fun y H4 => ∃ acc, H4 D = some (.lst acc) ∧ acc.length < sizeLine ∧ Nx (upd H4 D (.lst (acc ++ [y]))) else Nx H3) := by
  refine ⟨fun i m H => m = n - i ∧ i ≤ n ∧ Pv i H, ⟨n, by simp, Nat.zero_le _, h0⟩, ?_⟩
  rintro i m H ⟨rfl, hi, p⟩
  have q := hG i H hi p
  by_cases hlt : i < n
  · refine .inr ⟨w.goes i H hlt q, Pv (i + 1), fun H' p' => ⟨n - (i + 1), by omega, rfl, hlt, p'⟩, fun x H' y => hs i x H H' hlt p (w.yields i H x H' hlt q y)⟩
  · have e : i = n := by omega
    subst e
    exact .inl ⟨w.stops H q, hd H p⟩
/-- the outer loop: Rd tells what follows a turn's target -/
theorem out_it (w : Walk J n G Y) {g : TG} {vs : List Nat} {σ : L2.St} {H1 : Hp} {D : Addr} {Qd : Hp → Prop} {Rd : (Hp → Prop) → L2.St → Hp → Prop} (Pv : Nat → Hp → Prop) (h0 : Pv 0 (upd H1 D (.lst []))) (hG : ∀ i H, i ≤ n → Pv i H → G H)
    (hs : ∀ i x H H', i < n → Pv i H → Y i H x H' → g x (wipe σ vs) H' (Rd (Pv (i + 1)))) (hd : ∀ H, Pv n H → Qd H) :
    ∃ W : Nat → Nat → Hp → Prop, (∃ m, W 0 m (upd H1 D (.lst []))) ∧ ∀ i m H, W i m H →
      (J.stop i H ∧ Qd H) ∨ (J.go i H ∧ ∃ Nx : Hp → Prop, (∀ H', Nx H' → ∃ m', m' < m ∧ W (i + 1) m' H') ∧ ∀ x H', J.yld i H x H' → g x (wipe σ vs) H' (Rd Nx)) := by
  refine ⟨fun i m H => m = n - i ∧ i ≤ n ∧ Pv i H, ⟨n, by simp, Nat.zero_le _, h0⟩, ?_⟩
  rintro i m H ⟨rfl, hi, p⟩
  have q := hG i H hi p
  by_cases hlt : i < n
  · refine .inr ⟨w.goes i H hlt q, Pv (i + 1), fun H' p' => ⟨n - (i + 1), by omega, rfl, hlt, p'⟩, fun x H' y => hs i x H H' hlt p (w.yields i H x H' hlt q y)⟩
  · have e : i = n := by omega
    subst e
    exact .inl ⟨w.stops H q, hd H p⟩
end
end Mo
namespace Mo
open PySem PySem.Spec PyProof.Rows L2
/-- an f-string, its reading by a name -/
def tFs (ts : List TE) : TE := fun σ H Q => tJs ts Str.empty σ H fun out H1 => Q (.str out) H1
theorem pe_fs {X : Cx} {v1 v2 : Expr} {rest : List Expr} {ts : List TE} {pos : Pos} (h : PJ X (v1 :: v2 :: rest) ts) : PE X (.JoinedStr (v1 :: v2 :: rest) pos) (tFs ts) := pe_joined h
end Mo
namespace Mo
open PySem PySem.Spec PyProof.Rows L2
/-- readings by a name, for rules within a comprehension's block -/
def rLenS (K : PySem.W.Frag) : List V → Hp → VK → Prop := fun xs H Q => ∃ p ys, xs = [.ref p] ∧ (SqL K H p ys ∨ SqT K H p ys) ∧ Q (.int ys.length) H
theorem Src.ne_strs {H : Hp} {a p : Addr} {zs : List Str} (s : Src H a) (h : H p = some (.lst (zs.map V.str))) : p ≠ a := by
  rintro rfl
  obtain ⟨x, y, c, e, _⟩ := s
  rw [h] at e
  cases zs with
  | nil => cases e
  | cons z zs => cases e
theorem Src.ne_refs {H : Hp} {a p : Addr} {zs : List Addr} (s : Src H a) (h : H p = some (.lst (zs.map V.ref))) : p ≠ a := by
  rintro rfl
  obtain ⟨x, y, c, e, _⟩ := s
  rw [h] at e
  cases zs with
  | nil => cases e
  | cons z zs => cases e
theorem Src.fresh {H : Hp} {a p : Addr} (s : Src H a) (h : H p = none) : p ≠ a := by
  rintro rfl
  obtain ⟨x, y, c, e, _⟩ := s
  rw [h] at e
  cases e
theorem Src.upd {H : Hp} {a p : Addr} {o : HO} (s : Src H a) (h : p ≠ a) : Src (L2.upd H p o) a := by
  obtain ⟨x, y, c, e, r⟩ := s
  exact ⟨x, y, c, by rw [upd_ne h.symm]; exact e, r⟩
theorem Src.lst {H : Hp} {a : Addr} (s : Src H a) : ∃ xs, H a = some (.lst xs) := let ⟨x, y, c, e, _⟩ := s; ⟨_, e⟩
theorem all_flat_strs (l : List Str) : (l.map V.str).all flatV = true := by
  rw [List.all_eq_true]
  intro x hx
  obtain ⟨z, _, rfl⟩ := List.mem_map.mp hx
  rfl
end Mo
namespace Mo
open PySem PySem.Spec PyProof.Rows L2
/-- parts of statements -/
def forBody (s : Stmt) : List Stmt := match s with
  | .For _ _ b _ _ => b
  | _ => []
def ifBody (s : Stmt) : List Stmt := match s with
  | .If _ b _ _ => b
  | _ => []
def ifElse (s : Stmt) : List Stmt := match s with
  | .If _ _ b _ => b
  | _ => []
abbrev stAt (l : List Stmt) (i : Nat) : Stmt := l.getD i (.Pass ⟨0, 0, 0, 0⟩)
end Mo
set_option Elab.async false
set_option linter.all false
set_option maxRecDepth 100000
set_option maxHeartbeats 4000000
/-! the top by one run; its facts by truths over a part of the heap -/
namespace Mo
open PySem PySem.Spec PyProof.Rows L2
/-! ### defs by names -/
abbrev FnI : Type := Option (Str × Str × Arguments × FuncBody × Scope × Addr × List Str × Addr)
def fnI (K : PySem.W.Frag) (a : Addr) : FnI := match K.lookup a with
  | some ⟨_, _, .func fd, _⟩ => some (fd.name, fd.qualname, fd.params, fd.body, fd.scope, fd.globals, fd.closure.map (·.1), fd.builtins)
  | _ => none
def fnV (name qual : Str) (st : Stmt) (cl : List Str) : FnI := some (name, qual, defArgs st, .stmts (defBody st), defScope st, mainGlobals, cl, builtinsNs)
def fdOf (K : PySem.W.Frag) (a : Addr) : FuncData := match K.lookup a with
  | some ⟨_, _, .func fd, _⟩ => fd
  | _ => default
theorem fdOf_eq {K : PySem.W.Frag} {a : Addr} {oc : Value} {od : Option Addr} {fd : FuncData} {sl : Array (Option Value)} (h : K.lookup a = some ⟨oc, od, .func fd, sl⟩) : fdOf K a = fd := by
  unfold fdOf
  rw [h]
/-- the def's object, by what is told of it -/
theorem fnI_ex {K : PySem.W.Frag} {a : Addr} {name qual : Str} {st : Stmt} {cl : List Str} (e : fnI K a = fnV name qual st cl) :
    ∃ (oc : Value) (od : Option Addr) (dV kV doc pm : Value) (an : Option Addr) (cdv ct : Value) (osl : Array (Option Value)) (cs : List (Str × Addr)), cs.map (·.1) = cl ∧ fdOf K a = ⟨name, qual, defArgs st, .stmts (defBody st), defScope st, mainGlobals, cs, dV, kV, doc, pm, an, cdv, ct, builtinsNs⟩ ∧
      K.lookup a = some ⟨oc, od, .func (fdOf K a), osl⟩ := by
  unfold fnI at e
  cases q : K.lookup a with
  | none =>
    rw [q] at e
    cases e
  | some o =>
    obtain ⟨oc, od, dt, osl⟩ := o
    rw [q] at e
    cases dt with
    | func fd =>
      have ef := fdOf_eq q
      obtain ⟨n1, n2, n3, n4, n5, n6, n7, n8, n9, n10, n11, n12, n13, n14, n15⟩ := fd
      have e2 : (some (n1, n2, n3, n4, n5, n6, n7.map (·.1), n15) : FnI) = some (name, qual, defArgs st, .stmts (defBody st), defScope st, mainGlobals, cl, builtinsNs) := e
      simp only [Option.some.injEq, Prod.mk.injEq] at e2
      obtain ⟨h1, h2, h3, h4, h5, h6, h7, h8⟩ := e2
      subst h1 h2 h3 h4 h5 h6 h8
      exact ⟨oc, od, n8, n9, n10, n11, n12, n13, n14, osl, n7, h7, ef, by rw [ef]⟩
    | _ => cases e
def noDfl (K : PySem.W.Frag) (a : Addr) : Bool := match (fdOf K a).defaults with
  | .none => true
  | _ => false
def fnB (K : PySem.W.Frag) (a : Addr) (qual : Str) : Bool := PySem.W.keepIn K (.ref a) && (PySem.W.codeIn K (fdOf K a).code qual && noDfl K a)
theorem fun_of {K : PySem.W.Frag} {a : Addr} {name qual : Str} {st : Stmt} (e : fnI K a = fnV name qual st []) (c : fnB K a qual = true) : Fun K name qual st a (fdOf K a) := by
  obtain ⟨oc, od, dV, kV, doc, pm, an, cdv, ct, osl, cs, hcs, ef, lk⟩ := fnI_ex e
  obtain ⟨c1, c2⟩ := Bool.and_eq_true_iff.mp c
  obtain ⟨c2, c3⟩ := Bool.and_eq_true_iff.mp c2
  cases cs with
  | cons x l => simp at hcs
  | nil =>
    rw [ef] at c2
    have hd : dV = .none := by
      unfold noDfl at c3
      rw [ef] at c3
      cases dV <;> first | rfl | cases c3
    subst hd
    exact ⟨⟨oc, od, kV, doc, pm, an, cdv, ct, osl, ef, lk, c2⟩, c1⟩
theorem Fun.law {K : PySem.W.Frag} {x qual : Str} {st : Stmt} {f : Addr} {fd : FuncData} {p : Str} (F : Fun K x qual st f fd)
    (h : ∀ (kV doc pm : Value) (an : Option Addr) (cdv ct : Value) (u : Value), bindArgs (PySem.W.fnOf x qual (defArgs st) (defBody st) (defScope st) .none kV doc pm an cdv ct) ⟨[u], []⟩ = pure [(p, u)]) (s : Shared) (u : Value) : BindsTo s fd ⟨[u], []⟩ [(p, u)] := by
  obtain ⟨oc, od, kV, doc, pm, an, cdv, ct, osl, rfl, lk, hcd⟩ := F.ex
  exact .of_eq (h kV doc pm an cdv ct u)
/-! ### defaults -/
def dtOf (K : PySem.W.Frag) (a : Addr) : Addr := match (fdOf K a).defaults with
  | .ref T => T
  | _ => 0
def dxOf (K : PySem.W.Frag) (a : Addr) (j : Nat) : Addr := match K.lookup (dtOf K a) with
  | some ⟨_, _, .seq its _, _⟩ => (match its.toList[j]? with
    | some (.ref x) => x
    | _ => 0)
  | _ => 0
def tup0B (K : PySem.W.Frag) (x : Addr) : Bool := match K.lookup x with
  | some ⟨.type c, _, .seq its _, _⟩ => decide (c = "tuple") && its.toList.isEmpty
  | _ => false
theorem tup0_ok {K : PySem.W.Frag} {x : Addr} (h : tup0B K x = true) : (∀ H, SqT K H x []) ∧ ∀ H, TyX K H (.ref x) (.type "tuple") := by
  unfold tup0B at h
  cases q : K.lookup x with
  | none =>
    rw [q] at h
    cases h
  | some o =>
    obtain ⟨oc, od, dt, osl⟩ := o
    rw [q] at h
    cases oc with
    | type c =>
      cases dt with
      | seq its n =>
        obtain ⟨h1, h2⟩ := Bool.and_eq_true_iff.mp (show (decide (c = "tuple") && its.toList.isEmpty) = true from h)
        have h1 := of_decide_eq_true h1
        subst h1
        have h2 : its.toList = [] := List.isEmpty_iff.mp h2
        refine ⟨fun H => .inr ⟨_, its, n, q, rfl, rfl, ?_, by rw [h2]; exact .nil⟩, fun H => .kTuple q rfl⟩
        rw [← Array.length_toList, h2]
        exact Nat.zero_le _
      | _ => cases h
    | _ => cases dt <;> cases h
/-- a default that is nothing: none; an empty tuple: some -/
def dvB (K : PySem.W.Frag) (a : Addr) (ks : List Bool) : Bool := match K.lookup (dtOf K a) with
  | some ⟨_, _, .seq its _, _⟩ => decide (its.toList = ks.zipIdx.map fun k => if k.1 then Value.ref (dxOf K a k.2) else Value.none)
  | _ => false
def hasDfl (K : PySem.W.Frag) (a : Addr) : Bool := match (fdOf K a).defaults with
  | .ref _ => true
  | _ => false
def fnDB (K : PySem.W.Frag) (a : Addr) (qual : Str) (ks : List Bool) : Bool := PySem.W.keepIn K (.ref a) && (PySem.W.codeIn K (fdOf K a).code qual && (hasDfl K a && (dvB K a ks && (ks.zipIdx.all fun k => !k.1 || tup0B K (dxOf K a k.2)))))
def dvals (K : PySem.W.Frag) (a : Addr) (ks : List Bool) : List Value := ks.zipIdx.map fun k => if k.1 then Value.ref (dxOf K a k.2) else Value.none
theorem funV_of {K : PySem.W.Frag} {a : Addr} {name qual : Str} {st : Stmt} {ks : List Bool} (e : fnI K a = fnV name qual st []) (c : fnDB K a qual ks = true) :
    FunV K name qual st (.ref (dtOf K a)) a (fdOf K a) ∧ (∃ o m, K.lookup (dtOf K a) = some o ∧ o.data = .seq (dvals K a ks).toArray m) ∧ ∀ k ∈ ks.zipIdx, k.1 = true → tup0B K (dxOf K a k.2) = true := by
  obtain ⟨oc, od, dV, kV, doc, pm, an, cdv, ct, osl, cs, hcs, ef, lk⟩ := fnI_ex e
  obtain ⟨c1, c2⟩ := Bool.and_eq_true_iff.mp c
  obtain ⟨c2, c3⟩ := Bool.and_eq_true_iff.mp c2
  obtain ⟨c3, c4⟩ := Bool.and_eq_true_iff.mp c3
  obtain ⟨c4, c5⟩ := Bool.and_eq_true_iff.mp c4
  cases cs with
  | cons x l => simp at hcs
  | nil =>
    rw [ef] at c2
    have hd : dV = .ref (dtOf K a) := by
      unfold hasDfl at c3
      unfold dtOf
      rw [ef] at c3 ⊢
      cases dV <;> first | rfl | cases c3
    subst hd
    refine ⟨⟨⟨oc, od, kV, doc, pm, an, cdv, ct, osl, ef, lk, c2⟩, c1⟩, ?_, fun k hk hb => ?_⟩
    · unfold dvB at c4
      cases q : K.lookup (dtOf K a) with
      | none =>
        rw [q] at c4
        cases c4
      | some o =>
        obtain ⟨oc, od, dt, osl⟩ := o
        rw [q] at c4
        cases dt with
        | seq its n =>
          have c4 : its.toList = dvals K a ks := of_decide_eq_true c4
          exact ⟨_, n, rfl, by rw [← c4, Array.toArray_toList]⟩
        | _ => cases c4
    · have := List.all_eq_true.mp c5 k hk
      rw [hb] at this
      exact this
theorem FunV.bindsD {K : PySem.W.Frag} {x qual : Str} {st : Stmt} {T f : Addr} {fd : FuncData} {o : Obj} {its : List Value} {m n j : Nat} {ps : List Str} (F : FunV K x qual st (.ref T) f fd) (lT : K.lookup T = some o) (oT : o.data = .seq its.toArray m) (hn : n + (its.length - j) = ps.length)
    (h : ∀ (kV doc pm : Value) (an : Option Addr) (cdv ct : Value) (us : List Value), us.length = n → ∃ k, bindArgs (PySem.W.fnOf x qual (defArgs st) (defBody st) (defScope st) (.ref T) kV doc pm an cdv ct) ⟨us, []⟩ = seqItems? (.ref T) >>= k ∧ k (some its.toArray) = pure (ps.zip (us ++ its.drop j))) : Binds K fd ps (its.drop j) := by
  obtain ⟨oc, od, kV, doc, pm, an, cdv, ct, osl, rfl, lk, hcd⟩ := F.ex
  exact Mo.bindsD lT oT hn (h kV doc pm an cdv ct)
/-! ### methods that say super -/
def cellOf (K : PySem.W.Frag) (a : Addr) : Addr := match (fdOf K a).closure with
  | [(_, c)] => c
  | _ => 0
def fileB (P : Program) (K : PySem.W.Frag) (cd : Value) : Bool := match cd with
  | .ref c => (match K.lookup c with
    | some ⟨_, _, .fields vs, _⟩ => (match ((vs : Array Value)[2]? : Option Value) with
      | some (.str file _) => ((P.main.file : Str) == file)
      | _ => false)
    | _ => false)
  | _ => false
def cellB (K : PySem.W.Frag) (c D : Addr) : Bool := match K.lookup c with
  | some ⟨_, _, .cell (some (.ref d)), _⟩ => decide (d = D)
  | _ => false
def sfnB (P : Program) (K : PySem.W.Frag) (a D : Addr) (qual : Str) : Bool := PySem.W.keepIn K (.ref a) && (PySem.W.codeIn K (fdOf K a).code qual && (fileB P K (fdOf K a).code && (cellB K (cellOf K a) D && PySem.W.isClsIn K D)))
theorem sfun_of {P : Program} {K : PySem.W.Frag} {a D : Addr} {name qual : Str} {st : Stmt} (e : fnI K a = fnV name qual st ["__class__"]) (c : sfnB P K a D qual = true) (top : (P.main.scope.names.lookup ("super" : Str)).isSome = false) (opq : PySem.W.nsIn K cStatics "thirdparty.any" = some none) :
    SFun P K name qual st a (fdOf K a) (cellOf K a) D := by
  obtain ⟨oc, od, dV, kV, doc, pm, an, cdv, ct, osl, cs, hcs, ef, lk⟩ := fnI_ex e
  obtain ⟨c1, c2⟩ := Bool.and_eq_true_iff.mp c
  obtain ⟨c2, c3⟩ := Bool.and_eq_true_iff.mp c2
  obtain ⟨c3, c4⟩ := Bool.and_eq_true_iff.mp c3
  obtain ⟨c4, c5⟩ := Bool.and_eq_true_iff.mp c4
  obtain ⟨cc, ecs⟩ : ∃ cc, cs = [(("__class__" : Str), cc)] := by
    cases cs with
    | nil => simp at hcs
    | cons y l =>
      cases l with
      | nil =>
        obtain ⟨y1, y2⟩ := y
        have : [y1] = [("__class__" : Str)] := hcs
        injection this with this
        subst this
        exact ⟨y2, rfl⟩
      | cons z l =>
        have := congrArg List.length hcs
        simp at this
  subst ecs
  · 
    have ec : cellOf K a = cc := by
      unfold cellOf
      rw [ef]
    rw [ec] at c4 ⊢
    rw [ef] at c2 c3
    have c2 : PySem.W.codeIn K cdv qual = true := c2
    have c3 : fileB P K cdv = true := c3
    cases cdv with
    | ref cda =>
      unfold fileB at c3
      dsimp only at c3
      cases q : K.lookup cda with
      | none =>
        rw [q] at c3
        cases c3
      | some o =>
        obtain ⟨o1, o2, dt, o4⟩ := o
        rw [q] at c3
        cases dt with
        | fields vs =>
          have c3 : (match ((vs : Array Value)[2]? : Option Value) with
            | some (.str file _) => ((P.main.file : Str) == file)
            | _ => false) = true := c3
          cases q2 : vs[2]? with
          | none =>
            rw [q2] at c3
            cases c3
          | some z =>
            rw [q2] at c3
            cases z with
            | str file tf =>
              refine ⟨⟨oc, od, dV, kV, doc, pm, an, cda, ct, osl, ef, lk, c2, _, vs, file, tf, q, rfl, q2, c3⟩, ?_, Option.isSome_iff_exists.mp c5, top, opq⟩
              unfold cellB at c4
              cases q3 : K.lookup cc with
              | none =>
                rw [q3] at c4
                cases c4
              | some oC =>
                obtain ⟨p1, p2, pd, p4⟩ := oC
                rw [q3] at c4
                cases pd with
                | cell z =>
                  cases z with
                  | none => cases c4
                  | some y =>
                    cases y with
                    | ref d =>
                      have : d = D := of_decide_eq_true c4
                      subst this
                      exact ⟨_, rfl, rfl⟩
                    | _ => cases c4
                | _ => cases c4
            | _ => cases c3
        | _ => cases c3
    | _ => cases c2
/-- such a method without defaults -/
def SFunN (K : PySem.W.Frag) (x qual : Str) (st : Stmt) (fd : FuncData) (cc : Addr) : Prop := ∃ (kV doc pm : Value) (an : Option Addr) (cdv ct : Value), fd = PySem.W.ksFn x qual (defArgs st) (defBody st) (defScope st) .none kV doc pm an cdv ct cc
theorem sfunN_of {P : Program} {K : PySem.W.Frag} {x qual : Str} {st : Stmt} {a cc D : Addr} (F : SFun P K x qual st a (fdOf K a) cc D) (c : noDfl K a = true) : SFunN K x qual st (fdOf K a) cc := by
  obtain ⟨oc, od, dV, kV, doc, pm, an, cda, ct, osl, ef, lk, hcd, _⟩ := F.ex
  have hd : dV = .none := by
    unfold noDfl at c
    rw [ef] at c
    cases dV <;> first | rfl | cases c
  subst hd
  exact ⟨kV, doc, pm, an, _, ct, ef⟩
theorem SFunN.binds {K : PySem.W.Frag} {x qual : Str} {st : Stmt} {cc : Addr} {fd : FuncData} {ps : List Str} (F : SFunN K x qual st fd cc)
    (h : ∀ (kV doc pm : Value) (an : Option Addr) (cdv ct : Value) (us : List Value), us.length = ps.length → bindArgs (PySem.W.ksFn x qual (defArgs st) (defBody st) (defScope st) .none kV doc pm an cdv ct cc) ⟨us, []⟩ = pure (ps.zip us)) : Binds K fd ps [] := by
  obtain ⟨kV, doc, pm, an, cdv, ct, rfl⟩ := F
  exact .all (h kV doc pm an cdv ct)
theorem SFunN.kbn {K : PySem.W.Frag} {x qual : Str} {st : Stmt} {cc : Addr} {fd : FuncData} {ps ks : List Str} {g : {α : Type} → List α → List α → List α} (F : SFunN K x qual st fd cc)
    (h : ∀ (kV doc pm : Value) (an : Option Addr) (cdv ct : Value) (us ws : List Value), us.length = 1 → ws.length = ks.length → bindArgs (PySem.W.ksFn x qual (defArgs st) (defBody st) (defScope st) .none kV doc pm an cdv ct cc) ⟨us, ks.zip ws⟩ = pure (ps.zip (g us ws)))
    (rel : ∀ {vs : List V} {us : List Value} {zs : List V} {ws : List Value}, Vals vs us → Vals zs ws → Vals (g vs zs) (g us ws)) : KBn K fd ps 1 ks g g := by
  obtain ⟨kV, doc, pm, an, cdv, ct, rfl⟩ := F
  exact ⟨fun s us ws _ h1 h2 => .of_eq (h kV doc pm an cdv ct us ws h1 h2), rel⟩
theorem Fun.kbn {K : PySem.W.Frag} {x qual : Str} {st : Stmt} {f : Addr} {fd : FuncData} {ps ks : List Str} {g : {α : Type} → List α → List α → List α} (F : Fun K x qual st f fd)
    (h : ∀ (kV doc pm : Value) (an : Option Addr) (cdv ct : Value) (us ws : List Value), us.length = 1 → ws.length = ks.length → bindArgs (PySem.W.fnOf x qual (defArgs st) (defBody st) (defScope st) .none kV doc pm an cdv ct) ⟨us, ks.zip ws⟩ = pure (ps.zip (g us ws)))
    (rel : ∀ {vs : List V} {us : List Value} {zs : List V} {ws : List Value}, Vals vs us → Vals zs ws → Vals (g vs zs) (g us ws)) : KBn K fd ps 1 ks g g := by
  obtain ⟨oc, od, kV, doc, pm, an, cdv, ct, osl, rfl, lk, hcd⟩ := F.ex
  exact ⟨fun s us ws _ h1 h2 => .of_eq (h kV doc pm an cdv ct us ws h1 h2), rel⟩
/-! ### constants, properties -/
def tokOf (K : PySem.W.Frag) (x : Str) : Tok := match PySem.W.nsIn K mainGlobals x with
  | some (some (.str _ t)) => t
  | some (some (.int _ t)) => t
  | _ => 0
def pgOf (K : PySem.W.Frag) (p : Addr) : Addr := match PySem.W.recIn K p "property" with
  | some (.ref g :: _) => g
  | _ => 0
def prB (K : PySem.W.Frag) (p : Addr) : Bool := decide (PySem.W.specialIn K (.ref p) "__get__" = some (some (.builtin "property.__get__"))) && (decide (PySem.W.takesIn K (.ref p) = some true) && (match PySem.W.recIn K p "property" with
  | some (.ref _ :: _) => true
  | _ => false))
theorem prop_of {K : PySem.W.Frag} {C p : Addr} {f : Str} (a : PySem.W.findIn K (.ref C) f = some (some (.ref p))) (c : prB K p = true) : PropOf K C f p (pgOf K p) := by
  obtain ⟨c1, c2⟩ := Bool.and_eq_true_iff.mp c
  obtain ⟨c2, c3⟩ := Bool.and_eq_true_iff.mp c2
  refine ⟨a, of_decide_eq_true c1, of_decide_eq_true c2, ?_⟩
  unfold pgOf
  cases q : PySem.W.recIn K p "property" with
  | none =>
    rw [q] at c3
    cases c3
  | some l =>
    rw [q] at c3
    cases l with
    | nil => cases c3
    | cons y r =>
      cases y with
      | ref g => exact ⟨r, rfl⟩
      | _ => cases c3
def tupSB (K : PySem.W.Frag) (x : Str) (ws : List Str) : Bool := He.tupB K x (ws.map .str)
theorem tupS_ok {K : PySem.W.Frag} {x : Str} {ws : List Str} (h : tupSB K x ws = true) (H : Hp) : SqT K H (He.ga K x) (ws.map V.str) := by
  have := He.tupB_ok h H
  rw [List.map_map] at this
  exact this
/-! ### the hook -/
def asM (g : Addr → Option Obj) : Nat → List Addr
  | 0 => [mainGlobals, cStatics]
  | n + 1 => He.growD g (asM g n)
def hookM (n : Nat) (chk : PySem.W.Frag → List Bool) (fns : PySem.W.Frag → List FnI) (vals : List FnI) : PySem.W.Hook where
  α := Bool × List FnI
  obs := fun s => ((chk (He.frG s.heap.get? (asM s.heap.get? n))).all id, fns (He.frG s.heap.get? (asM s.heap.get? n)))
  val := fun _ => (true, vals)
  says := fun _ h => ∃ K : PySem.W.Frag, K.In h ∧ (chk K).all id = true ∧ fns K = vals
  of := fun _ _ e => ⟨_, He.frG_in, congrArg (fun z : Bool × List FnI => z.1) e, congrArg (fun z : Bool × List FnI => z.2) e⟩
  keeps := fun _ _ _ ⟨K, hK, c⟩ k => ⟨K, PySem.W.Frag.In.keeps hK k, c⟩
def obM (n : Nat) (chk : PySem.W.Frag → List Bool) (fns : PySem.W.Frag → List FnI) (g : Addr → Option Obj) : Bool × List FnI := ((chk (He.frG g (asM g n))).all id, fns (He.frG g (asM g n)))
theorem obM_eq {n : Nat} {chk : PySem.W.Frag → List Bool} {fns : PySem.W.Frag → List FnI} {vals : List FnI} {g : Addr → Option Obj} {s : Shared} (h : ∀ a, g a = s.heap.get? a) : obM n chk fns g = (hookM n chk fns vals).obs s := by
  have e : g = s.heap.get? := funext h
  rw [e] <;> rfl
theorem pick {l : List Bool} (c : l.all id = true) (i : Nat) {b : Bool} (h : l[i]? = some b := by rfl) : b = true := List.all_eq_true.mp c b (List.mem_of_getElem? h)
theorem pickD {l : List Bool} (c : l.all id = true) (i : Nat) {p : Prop} [d : Decidable p] (h : l[i]? = some (decide p) := by rfl) : p := of_decide_eq_true (pick c i h)
theorem pickF {l m : List FnI} (e : l = m) (i : Nat) {a b : FnI} (h1 : l[i]? = some a := by rfl) (h2 : m[i]? = some b := by rfl) : a = b := by
  rw [e, h2] at h1
  exact (Option.some.inj h1).symm
/-- the law's end, the written part found by the hook -/
theorem walk_M {l : PySem.W.OpenLaw} {n k : Nat} {q : Program} {loose : List Str} {XP : (Str → Option Value) → Heap → Prop} {YP : World → Heap → Prop} {d : DefRec} {x : Str}
    (hn : l.most = some n) (hn2 : n ≤ sizeLine) (hdf : d.params.defaults = []) (hr : Room k callerA)
    (F : ∀ (w : World) (mg : Str → Option Value) (fa : Addr) (h : Heap), YP w h → h.Ns mainGlobals mg → mg d.name = some (.ref fa) →
      ∃ (K : PySem.W.Frag) (fd : FuncData) (sp : Sp), K.In h ∧ (∀ (s : Shared) (u : Value), BindsTo s fd ⟨[u], []⟩ [(x, u)]) ∧
        (∀ (H : Hp) (a : Addr) (ns : List Int), ns.length ≤ n → (∀ z ∈ ns, Builtin.Int.intBits z ≤ 1048576) → Only H → SqL K H a (ns.map V.int) → sp [.ref a] H (fun v _ => v = .bl true) fun _ _ _ => False) ∧
        ∀ base : Heap, K.In base → base.Ns mainGlobals mg → FnG l.prog w K mg base CX0 k fa fd [x] sp) :
    PySem.W.WalkO q loose XP YP l.row.toRowW d [] (fun f vs => PySem.call f vs) := by
  apply Att.attach_callB hn hdf
  intro w s0 s1 mg mb fa o pm cd doc a vs ns G Y _ _ _ hmg hobj hints hlen hbits hg
  obtain ⟨K, fd, sp, KX, hb, hsp, hF⟩ := F w mg fa _ Y G.T.g hmg
  exact law_callG KX G.T.g G.T.b G.T.builtins G.T.nolimit hg hobj hints (Nat.le_trans hlen hn2) hr hF hb fun H hO hS => hsp H a ns hlen hbits hO hS
end Mo
namespace Mo
open PySem PySem.Spec PyProof.Rows L2
/-! ### constants of classes -/
def conB (K : PySem.W.Frag) (C : Addr) (f z : Str) : Bool := match PySem.W.findIn K (.ref C) f with
  | some (some (.str y t)) => decide (y = z) && decide (PySem.W.specialIn K (.str y t) "__get__" = some none)
  | _ => false
theorem con_of {K : PySem.W.Frag} {C : Addr} {f z : Str} (h : conB K C f z = true) (cp : PySem.W.copiedNames.contains f = false) : ∃ u, Con K C f (.str z) u := by
  unfold conB at h
  cases q : PySem.W.findIn K (.ref C) f with
  | none =>
    rw [q] at h
    cases h
  | some o =>
    rw [q] at h
    cases o with
    | none => cases h
    | some v =>
      cases v with
      | str y t =>
        obtain ⟨h1, h2⟩ := Bool.and_eq_true_iff.mp (show (decide (y = z) && decide (PySem.W.specialIn K (.str y t) "__get__" = some none)) = true from h)
        have h1 := of_decide_eq_true h1
        subst h1
        exact ⟨_, q, ⟨t, rfl⟩, of_decide_eq_true h2, cp⟩
      | _ => cases h
def cvalB (K : PySem.W.Frag) (C : Addr) (f z : Str) : Bool := match PySem.W.findCls K (.ref C) (.type "type") f with
  | some (.val (.str y _)) => decide (y = z)
  | _ => false
theorem cval_of {K : PySem.W.Frag} {C : Addr} {f z : Str} (h : cvalB K C f z = true) : ∃ u, ClX.CVal K C (.type "type") f (.str z) u := by
  unfold cvalB at h
  cases q : PySem.W.findCls K (.ref C) (.type "type") f with
  | none =>
    rw [q] at h
    cases h
  | some o =>
    rw [q] at h
    cases o with
    | val v =>
      cases v with
      | str y t =>
        have h1 : y = z := of_decide_eq_true h
        subst h1
        exact ⟨_, q, ⟨t, rfl⟩⟩
      | _ => cases h
    | _ => cases h
/-! ### defaults of methods that say super -/
def sdflB (K : PySem.W.Frag) (a : Addr) (ks : List Bool) : Bool := hasDfl K a && (dvB K a ks && (ks.zipIdx.all fun k => !k.1 || tup0B K (dxOf K a k.2)))
/-- such a method, its defaults' place known -/
def SFunD (P : Program) (K : PySem.W.Frag) (x qual : Str) (st : Stmt) (T f : Addr) (fd : FuncData) (cc : Addr) : Prop := ∃ (kV doc pm : Value) (an : Option Addr) (cdv ct : Value), fd = PySem.W.ksFn x qual (defArgs st) (defBody st) (defScope st) (.ref T) kV doc pm an cdv ct cc
theorem sdfl_of {P : Program} {K : PySem.W.Frag} {x qual : Str} {st : Stmt} {a cc D : Addr} {ks : List Bool} (F : SFun P K x qual st a (fdOf K a) cc D) (c : sdflB K a ks = true) :
    SFunD P K x qual st (dtOf K a) a (fdOf K a) cc ∧ (∃ o m, K.lookup (dtOf K a) = some o ∧ o.data = .seq (dvals K a ks).toArray m) ∧ ∀ k ∈ ks.zipIdx, k.1 = true → tup0B K (dxOf K a k.2) = true := by
  obtain ⟨oc, od, dV, kV, doc, pm, an, cda, ct, osl, ef, lk, hcd, _⟩ := F.ex
  obtain ⟨c3, c4⟩ := Bool.and_eq_true_iff.mp c
  obtain ⟨c4, c5⟩ := Bool.and_eq_true_iff.mp c4
  have hd : dV = .ref (dtOf K a) := by
    unfold hasDfl at c3
    unfold dtOf
    rw [ef] at c3 ⊢
    cases dV <;> first | rfl | cases c3
  subst hd
  refine ⟨⟨kV, doc, pm, an, _, ct, ef⟩, ?_, fun k hk hb => ?_⟩
  · unfold dvB at c4
    cases q : K.lookup (dtOf K a) with
    | none =>
      rw [q] at c4
      cases c4
    | some o =>
      obtain ⟨oc, od, dt, osl⟩ := o
      rw [q] at c4
      cases dt with
      | seq its n =>
        have c4 : its.toList = dvals K a ks := of_decide_eq_true c4
        exact ⟨_, n, rfl, by rw [← c4, Array.toArray_toList]⟩
      | _ => cases c4
  · have := List.all_eq_true.mp c5 k hk
    rw [hb] at this
    exact this
theorem SFunD.kbn {P : Program} {K : PySem.W.Frag} {x qual : Str} {st : Stmt} {T f cc : Addr} {fd : FuncData} {ps ks : List Str} {g : {α : Type} → List α → List α → List α} {o : Obj} {its : List Value} {m : Nat} (F : SFunD P K x qual st T f fd cc) (lT : K.lookup T = some o) (oT : o.data = .seq its.toArray m)
    (h : ∀ (kV doc pm : Value) (an : Option Addr) (cdv ct : Value) (us ws : List Value), us.length = 1 → ws.length = ks.length → ∃ k, bindArgs (PySem.W.ksFn x qual (defArgs st) (defBody st) (defScope st) (.ref T) kV doc pm an cdv ct cc) ⟨us, ks.zip ws⟩ = seqItems? (.ref T) >>= k ∧ k (some its.toArray) = pure (ps.zip (g us ws)))
    (rel : ∀ {vs : List V} {us : List Value} {zs : List V} {ws : List Value}, Vals vs us → Vals zs ws → Vals (g vs zs) (g us ws)) : KBn K fd ps 1 ks g g := by
  obtain ⟨kV, doc, pm, an, cdv, ct, rfl⟩ := F
  refine ⟨fun s us ws X h1 h2 => BindsTo.of_looks fun M => ?_, rel⟩
  obtain ⟨k, e1, e2⟩ := h kV doc pm an cdv ct us ws h1 h2
  rw [e1]
  exact looks_items X lT oT (.of_pure e2)
theorem SFun.bindsD {P : Program} {K : PySem.W.Frag} {x qual : Str} {st : Stmt} {T f cc : Addr} {fd : FuncData} {o : Obj} {its : List Value} {m n j : Nat} {ps : List Str} (F : SFunD P K x qual st T f fd cc) (lT : K.lookup T = some o) (oT : o.data = .seq its.toArray m) (hn : n + (its.length - j) = ps.length)
    (h : ∀ (kV doc pm : Value) (an : Option Addr) (cdv ct : Value) (us : List Value), us.length = n → ∃ k, bindArgs (PySem.W.ksFn x qual (defArgs st) (defBody st) (defScope st) (.ref T) kV doc pm an cdv ct cc) ⟨us, []⟩ = seqItems? (.ref T) >>= k ∧ k (some its.toArray) = pure (ps.zip (us ++ its.drop j))) : Binds K fd ps (its.drop j) := by
  obtain ⟨kV, doc, pm, an, cdv, ct, rfl⟩ := F
  exact Mo.bindsD lT oT hn (h kV doc pm an cdv ct)
end Mo
set_option Elab.async false
set_option linter.all false
set_option maxRecDepth 100000
set_option maxHeartbeats 4000000
/-! a list or a tuple, walked; promises that ask what cannot be -/
namespace Mo
open PySem PySem.Spec PyProof.Rows L2
/-- a list or a tuple of xs at a -/
def Sq (K : PySem.W.Frag) (H : Hp) (a : Addr) (xs : List V) : Prop := SqL K H a xs ∨ SqT K H a xs
theorem Sq.same {K : PySem.W.Frag} {H H' : Hp} {a : Addr} {xs : List V} (h : Sq K H a xs) (e : Same H H') : Sq K H' a xs := by
  rcases h with h | (h | ⟨o, h⟩) | h
  · exact .inl (e.seq h)
  · exact .inr (.inl (.inl (e _ _ h)))
  · exact .inr (.inl (.inr ⟨o, e _ _ h⟩))
  · exact .inr (.inr h)
section
variable {X : Cx} {tg : Expr}
def iSeq (K : PySem.W.Frag) (tl : TE) : TI := fun σ H R => tl σ H fun x H1 => ∃ a, x = .ref a ∧ (((∃ xs, SqL K H1 a xs) ∧ R (Itl K a) H1) ∨ ((∃ xs, SqT K H1 a xs) ∧ R (Itt K a) H1))
theorem pi_seq {l : Expr} {tl : TE} (hl : PE X l tl) : PI X tg l (iSeq X.K tl) := by
  refine ⟨fun pins s σ H R I h => ?_⟩
  refine thn (hl.run pins s σ H _ I h) fun v s1 ⟨x, H1, I1, r1, q1⟩ => ?_
  obtain ⟨a, e, q1⟩ := q1
  subst e
  cases r1
  rcases q1 with ⟨⟨xs, hq⟩, q⟩ | ⟨⟨xs, hq⟩, q⟩
  · obtain ⟨its, rv, p, hz⟩ := I1.list hq
    refine wpAny_pyIter_list p.isList ?_
    refine ⟨s1.heap.objs.size, [s1.heap.objs.size], _, _, H1, rfl, I1.kept (t' := s1.toks) fun b o e => Heap.get?_push_of_some _ e, turn_list a _, ⟨_, Heap.get?_push_size _ rfl, rfl, rfl⟩, fun b hb => ?_, q⟩
    have e : b = s1.heap.objs.size := by simpa using hb
    subst e
    exact I1.fpOk (Nat.le_refl _) (I1.hok.fresh (Nat.le_refl _))
  · obtain ⟨its, rv, p, hz⟩ := I1.tuple hq
    refine wpAny_pyIter_tuple (show s1.heap.IsTuple a its.toArray from p) ?_
    refine ⟨s1.heap.objs.size, [s1.heap.objs.size], _, _, H1, rfl, I1.kept (t' := s1.toks) fun b o e => Heap.get?_push_of_some _ e, turn_tuple a _, ⟨_, Heap.get?_push_size _ rfl, rfl, rfl⟩, fun b hb => ?_, q⟩
    have e : b = s1.heap.objs.size := by simpa using hb
    subst e
    exact I1.fpOk (Nat.le_refl _) (I1.hok.fresh (Nat.le_refl _))
end
/-- a for over a list or a tuple -/
theorem for_seq {K : PySem.W.Frag} {a : Addr} {xs : List V} {g : TG} {tb : TS} {D : Ends} {σ : L2.St} {H : Hp} (hs : Sq K H a xs) (Pv : Nat → L2.St → Hp → Prop) (h0 : Pv 0 σ H) (hk : ∀ i σ H', Pv i σ H' → Same H H')
    (ht : ∀ i x σ H, xs[i]? = some x → Pv i σ H → g x σ H fun σ2 H2 => tb { D with nx := Pv (i + 1), ct := Pv (i + 1), bk := D.nx } σ2 H2) (hd : ∀ σ H, Pv xs.length σ H → D.nx σ H) :
    ((∃ xs, SqL K H a xs) ∧ (fun (J : It) H => ∃ W : Nat → Nat → L2.St → Hp → Prop, (∃ m, W 0 m σ H) ∧ ∀ i m σ H, W i m σ H →
      (J.stop i H ∧ D.nx σ H) ∨ (J.go i H ∧ ∃ N : L2.St → Hp → Prop, (∀ σ' H', N σ' H' → ∃ m', m' < m ∧ W (i + 1) m' σ' H') ∧ ∀ x H', J.yld i H x H' → g x σ H' fun σ2 H2 => tb { D with nx := N, ct := N, bk := D.nx } σ2 H2)) (Itl K a) H) ∨
    ((∃ xs, SqT K H a xs) ∧ (fun (J : It) H => ∃ W : Nat → Nat → L2.St → Hp → Prop, (∃ m, W 0 m σ H) ∧ ∀ i m σ H, W i m σ H →
      (J.stop i H ∧ D.nx σ H) ∨ (J.go i H ∧ ∃ N : L2.St → Hp → Prop, (∀ σ' H', N σ' H' → ∃ m', m' < m ∧ W (i + 1) m' σ' H') ∧ ∀ x H', J.yld i H x H' → g x σ H' fun σ2 H2 => tb { D with nx := N, ct := N, bk := D.nx } σ2 H2)) (Itt K a) H) := by
  rcases hs with h | h
  · refine .inl ⟨⟨xs, h⟩, for_it walk_list Pv h0 (fun i σ H' _ p => (hk i σ H' p).seq h) (fun i x σ H1 H2 _ p y => ?_) hd⟩
    obtain ⟨rfl, y⟩ := y
    exact ht i x σ H2 y p
  · refine .inr ⟨⟨xs, h⟩, for_it walk_tup Pv h0 (fun i σ H' _ p => ?_) (fun i x σ H1 H2 _ p y => ?_) hd⟩
    · have e := hk i σ H' p
      rcases h with (h | ⟨o, h⟩) | h
      · exact .inl (.inl (e _ _ h))
      · exact .inl (.inr ⟨o, e _ _ h⟩)
      · exact .inr h
    · obtain ⟨rfl, y⟩ := y
      exact ht i x σ H2 y p
/-- a comprehension over a list or a tuple -/
theorem lc_seq {K : PySem.W.Frag} {a : Addr} {xs : List V} {g : TG} {tt : TT} {te : TE} {vs : List Nat} {σ : L2.St} {H1 : Hp} {Qr : Addr → Hp → Prop} (hs : Sq K H1 a xs) (Pv : Addr → Nat → Hp → Prop) (h0 : ∀ D, H1 D = none → Pv D 0 (upd H1 D (.lst []))) (hk : ∀ D i H', Pv D i H' → Same H1 H')
    (ht : ∀ D i x H, H1 D = none → xs[i]? = some x → Pv D i H → g x (wipe σ vs) H fun σ2 H2 => wipe σ2 vs = wipe σ vs ∧ tt σ2 H2 fun b H3 =>
      if b = true then te σ2 H3 fun y H4 => ∃ acc, H4 D = some (.lst acc) ∧ acc.length < sizeLine ∧ Pv D (i + 1) (upd H4 D (.lst (acc ++ [y]))) else Pv D (i + 1) H3) (hd : ∀ D H, H1 D = none → Pv D xs.length H → Qr D H) :
    ((∃ xs, SqL K H1 a xs) ∧ (fun (J : It) H1 => ∀ D, H1 D = none → ∃ W : Nat → Nat → Hp → Prop, (∃ m, W 0 m (upd H1 D (.lst []))) ∧ ∀ i m H, W i m H →
      (J.stop i H ∧ Qr D H) ∨ (J.go i H ∧ ∃ Nx : Hp → Prop, (∀ H', Nx H' → ∃ m', m' < m ∧ W (i + 1) m' H') ∧ ∀ x H', J.yld i H x H' → g x (wipe σ vs) H' fun σ2 H2 => wipe σ2 vs = wipe σ vs ∧ tt σ2 H2 fun b H3 =>
        if b = true then te σ2 H3 fun y H4 => ∃ acc, H4 D = some (.lst acc) ∧ acc.length < sizeLine ∧ Nx (upd H4 D (.lst (acc ++ [y]))) else Nx H3)) (Itl K a) H1) ∨
    ((∃ xs, SqT K H1 a xs) ∧ (fun (J : It) H1 => ∀ D, H1 D = none → ∃ W : Nat → Nat → Hp → Prop, (∃ m, W 0 m (upd H1 D (.lst []))) ∧ ∀ i m H, W i m H →
      (J.stop i H ∧ Qr D H) ∨ (J.go i H ∧ ∃ Nx : Hp → Prop, (∀ H', Nx H' → ∃ m', m' < m ∧ W (i + 1) m' H') ∧ ∀ x H', J.yld i H x H' → g x (wipe σ vs) H' fun σ2 H2 => wipe σ2 vs = wipe σ vs ∧ tt σ2 H2 fun b H3 =>
        if b = true then te σ2 H3 fun y H4 => ∃ acc, H4 D = some (.lst acc) ∧ acc.length < sizeLine ∧ Nx (upd H4 D (.lst (acc ++ [y]))) else Nx H3)) (Itt K a) H1) := by
  rcases hs with h | h
  · refine .inl ⟨⟨xs, h⟩, fun D hD => lc_it walk_list (g := g) (tt := tt) (te := te) (Pv D) (h0 D hD) (fun i H' _ p => (hk D i H' p).seq h) (fun i x H1 H2 _ p y => ?_) (fun H => hd D H hD)⟩
    obtain ⟨rfl, y⟩ := y
    exact ht D i x H2 hD y p
  · refine .inr ⟨⟨xs, h⟩, fun D hD => lc_it walk_tup (g := g) (tt := tt) (te := te) (Pv D) (h0 D hD) (fun i H' _ p => ?_) (fun i x H1 H2 _ p y => ?_) (fun H => hd D H hD)⟩
    · have e := hk D i H' p
      rcases h with (h | ⟨o, h⟩) | h
      · exact .inl (.inl (e _ _ h))
      · exact .inl (.inr ⟨o, e _ _ h⟩)
      · exact .inr h
    · obtain ⟨rfl, y⟩ := y
      exact ht D i x H2 hD y p
/-- a promise that is never asked -/
theorem FnOk.vac {P : Program} {w : World} {K : PySem.W.Frag} {mg : Str → Option Value} {base : Heap} {CX : CXT} {k : Nat} {f : Addr} {fd : FuncData} {ps : List Str} {sp : Sp} (h : ∀ vs H Q E, ¬ sp vs H Q E) : FnOk P w K mg base CX k f fd ps sp :=
  ⟨fun vs H Q E z => (h vs H Q E z).elim, fun A outer s H args us vs Q E hr e b v z => (h vs H Q E z).elim⟩
end Mo
namespace MoEq
open PySem PySem.W PySem.Calls PyProof.Rows GQ
open AutoSeq1 (wpAny_loadPart')
section
variable {prog : Program} {w : World} {A : Around} {R : Result → Shared → Prop}
theorem tuple_eqE (l b : Addr) (items : Array Value) (n n2 : Nat) (dd dd2 : Option Addr) (sl sl2 : Array (Option Value)) {s : Shared} (hl1 : s.heap.get? l = some { cls := .type "tuple", dict := dd, data := .seq items n, slots := sl }) (hb1 : s.heap.get? b = some { cls := .type "tuple", dict := dd2, data := .seq #[] n2, slots := sl2 })
    (h : R (.ok (.ret (.bool (decide (items.size = 0))))) s) :
    wpAny (model prog w) A.in1 (Builtin.«tuple.__eq__» ⟨[.ref l, .ref b], []⟩) (FinOf prog w A R) (fun e s' => R (.error e) s') s := by
  have f2 := AutoSeq1.sub_tuple_tuple
  have h0 := h
  obtain ⟨s0, es⟩ : ∃ s0, s0 = s := ⟨_, rfl⟩
  obtain ⟨hp, g, d, tk, os⟩ := s
  wp_walk using wpAny_loadPart' hl1, wpAny_loadPart' hb1, wpAny_forIn_list _ (fun rest b s' => b.1 = none ∧ rest = [] ∧ s' = s0) _
  case turn =>
    rintro ⟨y, x⟩ rest b s' ⟨hb', hz, _⟩
    cases hz
  case fin =>
    rintro ⟨b1, b2⟩ s' ⟨hb', hz, hs⟩
    simp only at hb'
    subst hb'
    subst hs
    subst es
    wp_walk
    have e : (items.size == 0) = decide (items.size = 0) := by
      rw [Bool.eq_iff_iff]
      simp
    simpa [Builtin.Tuple.tupleCompareSizes, e] using h0
  case h =>
    exact ⟨rfl, by simp, es.symm⟩
end
section
variable {prog : Program} {w : World} {A : Around} {E : Value → Shared → Prop} {s : Shared}
theorem rc_tupE {l b : Addr} {items : Array Value} {Q : Value → Shared → Prop} (hu : A.units < cLine) (hl : s.heap.IsTuple l items) (hb : s.heap.IsTuple b #[]) (h : Q (.bool (decide (items.size = 0))) s) : wpAny (model prog w) A (richCompare .Eq (.ref l) (.ref b)) Q E s := by
  obtain ⟨⟨cls, dd, data, sl⟩, ho, hc, n, hd⟩ := id hl
  obtain ⟨⟨cls2, dd2, data2, sl2⟩, ho2, hc2, n2, hd2⟩ := id hb
  simp only at hc hd hc2 hd2
  subst hc hd hc2 hd2
  refine wpAny_richCompare_same_room (op := .Eq) ⟨_, ho, rfl⟩ ⟨_, ho2, rfl⟩ PySem.F.slot_tuple_eq (call_here PySem.F.slot_tuple_eq ⟨_, ho, rfl⟩ PySem.F.entry_tuple_eq (PySem.F.args_tuple_eq_2 _ _) ?_) hu
  exact tuple_eqE (R := wants (fun v s' => v ≠ .notImplemented ∧ Q v s') E) l b items n n2 dd dd2 sl sl2 ho ho2 ⟨(fun x => nomatch x), h⟩
end
end MoEq
namespace Mo
open PySem PySem.Spec PyProof.Rows L2
/-- t == (): whether the tuple is empty -/
def rEqE (K : PySem.W.Frag) : R2 := fun x y H Q => ∃ a b xs, x = .ref a ∧ y = .ref b ∧ SqT K H a xs ∧ SqT K H b [] ∧ Q (.bl (decide (xs.length = 0))) H
theorem op_eqE {X : Cx} (hu : X.A.units < cLine) : OpR X (compareOp .Eq) (rEqE X.K) := by
  intro pins s σ H x y v u Q I rx ry h
  obtain ⟨a, b, xs, rfl, rfl, ha, hb, q⟩ := h
  cases rx
  cases ry
  obtain ⟨its, r1, p1, _⟩ := I.tuple ha
  obtain ⟨its2, r2, p2, _⟩ := I.tuple hb
  cases r2
  have e : decide (its.toArray.size = 0) = decide (xs.length = 0) := by rw [List.size_toArray, r1.length]
  show wpAny (model X.prog X.w) X.A (richCompare .Eq (.ref a) (.ref b)) (EP X pins σ Q) X.xe s
  refine MoEq.rc_tupE hu p1 p2 ?_
  rw [e]
  exact ⟨.bl _, H, I, rfl, q⟩
theorem sqt_ty {K : PySem.W.Frag} {H : Hp} {p : Addr} {xs : List V} (h : SqT K H p xs) : TyX K H (.ref p) (.type "tuple") := by
  rcases h with (h | ⟨o, h⟩) | ⟨o, its, n, h, hc, _⟩
  · exact .base (.tup h)
  · exact .fTuple h
  · exact .kTuple h hc
end Mo
set_option Elab.async false
set_option linter.all false
set_option maxRecDepth 100000
set_option maxHeartbeats 4000000
namespace K04
open PySem PySem.Spec PyProof.Rows L2 Mo
def P : Program := PySem.Challenge.pw_momentcalls_k04_statements_with_bodies
def topS (i : Nat) : Stmt := PySem.Challenge.pw_momentcalls_k04_statements_with_bodies.main.body.getD i (.Pass ⟨0, 0, 0, 0⟩)
abbrev st_is_name : Stmt := topS 15
abbrev nm_is_name : List Str := ["value", "sign"]
theorem sc_is_name : FnScope nm_is_name ["value"] (defScope st_is_name) := ⟨rfl, rfl, rfl, by decide +kernel, rfl, by decide +kernel, by decide +kernel⟩
abbrev st_is_operand : Stmt := topS 16
abbrev nm_is_operand : List Str := ["value"]
theorem sc_is_operand : FnScope nm_is_operand ["value"] (defScope st_is_operand) := ⟨rfl, rfl, rfl, by decide +kernel, rfl, by decide +kernel, by decide +kernel⟩
abbrev st_check_name : Stmt := topS 17
abbrev nm_check_name : List Str := ["value"]
theorem sc_check_name : FnScope nm_check_name ["value"] (defScope st_check_name) := ⟨rfl, rfl, rfl, by decide +kernel, rfl, by decide +kernel, by decide +kernel⟩
abbrev st_check_operand : Stmt := topS 18
abbrev nm_check_operand : List Str := ["value"]
theorem sc_check_operand : FnScope nm_check_operand ["value"] (defScope st_check_operand) := ⟨rfl, rfl, rfl, by decide +kernel, rfl, by decide +kernel, by decide +kernel⟩
abbrev st_Statement___init__ : Stmt := inClass (topS 21) 1
abbrev nm_Statement___init__ : List Str := ["self", "line", "mentioned", "body", "otherwise", "inside", "amount", "level", "part"]
theorem sc_Statement___init__ : FnScope nm_Statement___init__ ["self", "line", "mentioned", "body", "otherwise"] (defScope st_Statement___init__) := ⟨rfl, rfl, rfl, by decide +kernel, rfl, by decide +kernel, by decide +kernel⟩
abbrev st_Statement_amount : Stmt := inClass (topS 21) 2
abbrev nm_Statement_amount : List Str := ["self"]
theorem sc_Statement_amount : FnScope nm_Statement_amount ["self"] (defScope st_Statement_amount) := ⟨rfl, rfl, rfl, by decide +kernel, rfl, by decide +kernel, by decide +kernel⟩
abbrev st_Statement_level : Stmt := inClass (topS 21) 3
abbrev nm_Statement_level : List Str := ["self"]
theorem sc_Statement_level : FnScope nm_Statement_level ["self"] (defScope st_Statement_level) := ⟨rfl, rfl, rfl, by decide +kernel, rfl, by decide +kernel, by decide +kernel⟩
abbrev st_Statement___eq__ : Stmt := inClass (topS 21) 4
abbrev nm_Statement___eq__ : List Str := ["self", "other"]
theorem sc_Statement___eq__ : FnScope nm_Statement___eq__ ["self", "other"] (defScope st_Statement___eq__) := ⟨rfl, rfl, rfl, by decide +kernel, rfl, by decide +kernel, by decide +kernel⟩
abbrev st_Statement___str__ : Stmt := inClass (topS 21) 5
abbrev nm_Statement___str__ : List Str := ["self"]
theorem sc_Statement___str__ : FnScope nm_Statement___str__ ["self"] (defScope st_Statement___str__) := ⟨rfl, rfl, rfl, by decide +kernel, rfl, by decide +kernel, by decide +kernel⟩
abbrev st_Statement___repr__ : Stmt := inClass (topS 21) 6
abbrev nm_Statement___repr__ : List Str := ["self"]
theorem sc_Statement___repr__ : FnScope nm_Statement___repr__ ["self"] (defScope st_Statement___repr__) := ⟨rfl, rfl, rfl, by decide +kernel, rfl, by decide +kernel, by decide +kernel⟩
abbrev st_Look___init__ : Stmt := inClass (topS 22) 1
abbrev nm_Look___init__ : List Str := ["self", "cell", "into"]
theorem ss_Look___init__ : SScope nm_Look___init__ ["self", "cell", "into"] (defScope st_Look___init__) := ⟨rfl, rfl, rfl, by decide +kernel, rfl, by decide +kernel, by decide +kernel, by decide +kernel, rfl, rfl⟩
abbrev st_Put___init__ : Stmt := inClass (topS 23) 1
abbrev nm_Put___init__ : List Str := ["self", "cell", "operand"]
theorem ss_Put___init__ : SScope nm_Put___init__ ["self", "cell", "operand"] (defScope st_Put___init__) := ⟨rfl, rfl, rfl, by decide +kernel, rfl, by decide +kernel, by decide +kernel, by decide +kernel, rfl, rfl⟩
abbrev st_Swap___init__ : Stmt := inClass (topS 24) 1
abbrev nm_Swap___init__ : List Str := ["self", "cell", "operand", "into"]
theorem ss_Swap___init__ : SScope nm_Swap___init__ ["self", "cell", "operand", "into"] (defScope st_Swap___init__) := ⟨rfl, rfl, rfl, by decide +kernel, rfl, by decide +kernel, by decide +kernel, by decide +kernel, rfl, rfl⟩
abbrev st_Try___init__ : Stmt := inClass (topS 25) 1
abbrev nm_Try___init__ : List Str := ["self", "cell", "old", "new", "into"]
theorem ss_Try___init__ : SScope nm_Try___init__ ["self", "cell", "old", "new", "into"] (defScope st_Try___init__) := ⟨rfl, rfl, rfl, by decide +kernel, rfl, by decide +kernel, by decide +kernel, by decide +kernel, rfl, rfl⟩
abbrev st_Let___init__ : Stmt := inClass (topS 26) 1
abbrev nm_Let___init__ : List Str := ["self", "into", "operand"]
theorem ss_Let___init__ : SScope nm_Let___init__ ["self", "into", "operand"] (defScope st_Let___init__) := ⟨rfl, rfl, rfl, by decide +kernel, rfl, by decide +kernel, by decide +kernel, by decide +kernel, rfl, rfl⟩
abbrev st_If___init__ : Stmt := inClass (topS 27) 1
abbrev nm_If___init__ : List Str := ["self", "left", "right", "body", "otherwise"]
theorem ss_If___init__ : SScope nm_If___init__ ["self", "left", "right", "body", "otherwise"] (defScope st_If___init__) := ⟨rfl, rfl, rfl, by decide +kernel, rfl, by decide +kernel, by decide +kernel, by decide +kernel, rfl, rfl⟩
abbrev st_Loop___init__ : Stmt := inClass (topS 28) 1
abbrev nm_Loop___init__ : List Str := ["self", "body"]
theorem ss_Loop___init__ : SScope nm_Loop___init__ ["self", "body"] (defScope st_Loop___init__) := ⟨rfl, rfl, rfl, by decide +kernel, rfl, by decide +kernel, by decide +kernel, by decide +kernel, rfl, rfl⟩
abbrev st_Leave___init__ : Stmt := inClass (topS 29) 1
abbrev nm_Leave___init__ : List Str := ["self"]
theorem ss_Leave___init__ : SScope nm_Leave___init__ ["self"] (defScope st_Leave___init__) := ⟨rfl, rfl, rfl, by decide +kernel, rfl, by decide +kernel, by decide +kernel, by decide +kernel, rfl, rfl⟩
abbrev st_Return___init__ : Stmt := inClass (topS 30) 1
abbrev nm_Return___init__ : List Str := ["self", "operand"]
theorem ss_Return___init__ : SScope nm_Return___init__ ["self", "operand"] (defScope st_Return___init__) := ⟨rfl, rfl, rfl, by decide +kernel, rfl, by decide +kernel, by decide +kernel, by decide +kernel, rfl, rfl⟩
abbrev st_Joined___init__ : Stmt := inClass (topS 31) 1
abbrev nm_Joined___init__ : List Str := ["self", "body"]
theorem ss_Joined___init__ : SScope nm_Joined___init__ ["self", "body"] (defScope st_Joined___init__) := ⟨rfl, rfl, rfl, by decide +kernel, rfl, by decide +kernel, by decide +kernel, by decide +kernel, rfl, rfl⟩
abbrev st_indented : Stmt := topS 32
abbrev nm_indented : List Str := ["body", "part", "row"]
theorem sc_indented : FnScope nm_indented ["body"] (defScope st_indented) := ⟨rfl, rfl, rfl, by decide +kernel, rfl, by decide +kernel, by decide +kernel⟩
abbrev st_goes_together : Stmt := topS 33
abbrev nm_goes_together : List Str := ["part", "one"]
theorem sc_goes_together : FnScope nm_goes_together ["part"] (defScope st_goes_together) := ⟨rfl, rfl, rfl, by decide +kernel, rfl, by decide +kernel, by decide +kernel⟩
abbrev st_check_body : Stmt := topS 34
abbrev nm_check_body : List Str := ["value", "at", "part"]
theorem sc_check_body : FnScope nm_check_body ["value"] (defScope st_check_body) := ⟨rfl, rfl, rfl, by decide +kernel, rfl, by decide +kernel, by decide +kernel⟩
abbrev st_check_joined : Stmt := topS 35
abbrev nm_check_joined : List Str := ["value", "at", "part"]
theorem sc_check_joined : FnScope nm_check_joined ["value"] (defScope st_check_joined) := ⟨rfl, rfl, rfl, by decide +kernel, rfl, by decide +kernel, by decide +kernel⟩
abbrev st_law_number : Stmt := topS 37
abbrev nm_law_number : List Str := ["_law_numbers", "_law_k", "_law_seed", "_law_item"]
theorem sc_law_number : FnScope nm_law_number ["_law_numbers", "_law_k"] (defScope st_law_number) := ⟨rfl, rfl, rfl, by decide +kernel, rfl, by decide +kernel, by decide +kernel⟩
abbrev st_law_source : Stmt := topS 38
abbrev nm_law_source : List Str := ["_law_number_here", "_law_figures"]
theorem sc_law_source : FnScope nm_law_source ["_law_number_here"] (defScope st_law_source) := ⟨rfl, rfl, rfl, by decide +kernel, rfl, by decide +kernel, by decide +kernel⟩
abbrev st_law_take : Stmt := topS 39
abbrev nm_law_take : List Str := ["_law_source_here", "_law_many", "_law_seed", "_law_digit"]
theorem sc_law_take : FnScope nm_law_take ["_law_source_here", "_law_many"] (defScope st_law_take) := ⟨rfl, rfl, rfl, by decide +kernel, rfl, by decide +kernel, by decide +kernel⟩
abbrev st_law_word : Stmt := topS 40
abbrev nm_law_word : List Str := ["_law_source_here", "_law_words_here", "_law_letters", "_law_found", "_law_turn"]
theorem sc_law_word : FnScope nm_law_word ["_law_source_here"] (defScope st_law_word) := ⟨rfl, rfl, rfl, by decide +kernel, rfl, by decide +kernel, by decide +kernel⟩
abbrev st_law_words : Stmt := topS 41
abbrev nm_law_words : List Str := ["_law_source_here", "_law_many", "_law_found", "_law_turn", "_law_item", "_law_mate"]
theorem sc_law_words : FnScope nm_law_words ["_law_source_here", "_law_many"] (defScope st_law_words) := ⟨rfl, rfl, rfl, by decide +kernel, rfl, by decide +kernel, by decide +kernel⟩
abbrev st_law_head : Stmt := topS 42
abbrev nm_law_head : List Str := ["_law_tree"]
theorem sc_law_head : FnScope nm_law_head ["_law_tree"] (defScope st_law_head) := ⟨rfl, rfl, rfl, by decide +kernel, rfl, by decide +kernel, by decide +kernel⟩
abbrev st_law_bodies : Stmt := topS 43
abbrev nm_law_bodies : List Str := ["_law_tree"]
theorem sc_law_bodies : FnScope nm_law_bodies ["_law_tree"] (defScope st_law_bodies) := ⟨rfl, rfl, rfl, by decide +kernel, rfl, by decide +kernel, by decide +kernel⟩
abbrev st_law_lines : Stmt := topS 44
abbrev nm_law_lines : List Str := ["_law_trees", "_law_indent", "_law_found", "_law_tree", "_law_inner", "_law_outer"]
theorem sc_law_lines : FnScope nm_law_lines ["_law_trees", "_law_indent"] (defScope st_law_lines) := ⟨rfl, rfl, rfl, by decide +kernel, rfl, by decide +kernel, by decide +kernel⟩
abbrev st_law_made : Stmt := topS 45
abbrev nm_law_made : List Str := ["_law_source_here", "_law_tree", "_law_way", "_law_kind"]
theorem sc_law_made : FnScope nm_law_made ["_law_source_here", "_law_tree"] (defScope st_law_made) := ⟨rfl, rfl, rfl, by decide +kernel, rfl, by decide +kernel, by decide +kernel⟩
abbrev st_law_holding : Stmt := topS 46
abbrev nm_law_holding : List Str := ["_law_source_here", "_law_tree", "_law_way", "_law_inner", "_law_outer", "_law_side", "_law_part_here"]
theorem sc_law_holding : FnScope nm_law_holding ["_law_source_here", "_law_tree", "_law_way"] (defScope st_law_holding) := ⟨rfl, rfl, rfl, by decide +kernel, rfl, by decide +kernel, by decide +kernel⟩
abbrev st_law_size : Stmt := topS 47
abbrev nm_law_size : List Str := ["_law_trees", "_law_tree", "_law_side"]
theorem sc_law_size : FnScope nm_law_size ["_law_trees"] (defScope st_law_size) := ⟨rfl, rfl, rfl, by decide +kernel, rfl, by decide +kernel, by decide +kernel⟩
abbrev st_law_paces : Stmt := topS 48
abbrev nm_law_paces : List Str := ["_law_trees", "_law_found", "_law_tree", "_law_side"]
theorem sc_law_paces : FnScope nm_law_paces ["_law_trees"] (defScope st_law_paces) := ⟨rfl, rfl, rfl, by decide +kernel, rfl, by decide +kernel, by decide +kernel⟩
abbrev st_law_line : Stmt := topS 49
abbrev nm_law_line : List Str := ["_law_source_here", "_law_world", "_law_names", "_law_goals", "_law_rooms", "_law_room", "_law_goal", "_law_first", "_law_second", "_law_way"]
theorem sc_law_line : FnScope nm_law_line ["_law_source_here", "_law_world"] (defScope st_law_line) := ⟨rfl, rfl, rfl, by decide +kernel, rfl, by decide +kernel, by decide +kernel⟩
abbrev st_law_operand : Stmt := topS 50
abbrev nm_law_operand : List Str := ["_law_source_here", "_law_names", "_law_some"]
theorem sc_law_operand : FnScope nm_law_operand ["_law_source_here", "_law_names"] (defScope st_law_operand) := ⟨rfl, rfl, rfl, by decide +kernel, rfl, by decide +kernel, by decide +kernel⟩
abbrev st_law_statement : Stmt := topS 51
abbrev nm_law_statement : List Str := ["_law_source_here", "_law_world", "_law_deep", "_law_sort", "_law_way", "_law_first", "_law_second", "_law_inner"]
theorem sc_law_statement : FnScope nm_law_statement ["_law_source_here", "_law_world", "_law_deep", "_law_sort"] (defScope st_law_statement) := ⟨rfl, rfl, rfl, by decide +kernel, rfl, by decide +kernel, by decide +kernel⟩
abbrev st_law_body : Stmt := topS 52
abbrev nm_law_body : List Str := ["_law_source_here", "_law_world", "_law_deep", "_law_sort", "_law_turn"]
theorem sc_law_body : FnScope nm_law_body ["_law_source_here", "_law_world", "_law_deep", "_law_sort"] (defScope st_law_body) := ⟨rfl, rfl, rfl, by decide +kernel, rfl, by decide +kernel, by decide +kernel⟩
abbrev st_law_fitting : Stmt := topS 53
abbrev nm_law_fitting : List Str := ["_law_trees", "_law_most", "_law_paces_here", "_law_found", "_law_tree"]
theorem sc_law_fitting : FnScope nm_law_fitting ["_law_trees", "_law_most", "_law_paces_here"] (defScope st_law_fitting) := ⟨rfl, rfl, rfl, by decide +kernel, rfl, by decide +kernel, by decide +kernel⟩
abbrev st_law_sides : Stmt := topS 54
abbrev nm_law_sides : List Str := ["_law_source_here", "_law_world", "_law_sort", "_law_some", "_law_turn"]
theorem sc_law_sides : FnScope nm_law_sides ["_law_source_here", "_law_world", "_law_sort"] (defScope st_law_sides) := ⟨rfl, rfl, rfl, by decide +kernel, rfl, by decide +kernel, by decide +kernel⟩
abbrev st_law_holder : Stmt := topS 55
abbrev nm_law_holder : List Str := ["_law_source_here", "_law_world", "_law_way", "_law_again", "_law_tree", "_law_first", "_law_second", "_law_inner", "_law_outer"]
theorem sc_law_holder : FnScope nm_law_holder ["_law_source_here", "_law_world"] (defScope st_law_holder) := ⟨rfl, rfl, rfl, by decide +kernel, rfl, by decide +kernel, by decide +kernel⟩
abbrev st_law_height : Stmt := topS 56
abbrev nm_law_height : List Str := ["_law_tree", "_law_inner", "_law_outer", "_law_part_here"]
theorem sc_law_height : FnScope nm_law_height ["_law_tree"] (defScope st_law_height) := ⟨rfl, rfl, rfl, by decide +kernel, rfl, by decide +kernel, by decide +kernel⟩
abbrev st_law_bent : Stmt := topS 57
abbrev nm_law_bent : List Str := ["_law_source_here", "_law_tree", "_law_way", "_law_inner", "_law_outer", "_law_more"]
theorem sc_law_bent : FnScope nm_law_bent ["_law_source_here", "_law_tree"] (defScope st_law_bent) := ⟨rfl, rfl, rfl, by decide +kernel, rfl, by decide +kernel, by decide +kernel⟩
abbrev st_law_kinds : Stmt := topS 58
abbrev nm_law_kinds : List Str := ["_law_thing", "_law_found", "_law_names", "_law_k"]
theorem sc_law_kinds : FnScope nm_law_kinds ["_law_thing"] (defScope st_law_kinds) := ⟨rfl, rfl, rfl, by decide +kernel, rfl, by decide +kernel, by decide +kernel⟩
abbrev st_law_is : Stmt := topS 59
abbrev nm_law_is : List Str := ["_law_thing", "_law_tree", "_law_lines_here", "_law_told", "_law_due"]
theorem sc_law_is : FnScope nm_law_is ["_law_thing", "_law_tree"] (defScope st_law_is) := ⟨rfl, rfl, rfl, by decide +kernel, rfl, by decide +kernel, by decide +kernel⟩
abbrev st_law_right : Stmt := topS 60
abbrev nm_law_right : List Str := ["_law_source_here", "_law_names", "_law_world", "_law_trees", "_law_tree", "_law_made_here", "_law_mates", "_law_k", "_law_bent_here", "_law_j", "_law_alike"]
theorem sc_law_right : FnScope nm_law_right ["_law_source_here"] (defScope st_law_right) := ⟨rfl, rfl, rfl, by decide +kernel, rfl, by decide +kernel, by decide +kernel⟩
abbrev st_law_by_hand : Stmt := topS 61
abbrev nm_law_by_hand : List Str := ["_law_tree", "_law_due", "_law_told", "_law_some", "_law_first", "_law_second"]
theorem sc_law_by_hand : FnScope nm_law_by_hand [] (defScope st_law_by_hand) := ⟨rfl, rfl, rfl, by decide +kernel, rfl, by decide +kernel, by decide +kernel⟩
abbrev st_law : Stmt := topS 62
abbrev nm_law : List Str := ["_law_numbers", "_law_k"]
theorem sc_law : FnScope nm_law ["_law_numbers"] (defScope st_law) := ⟨rfl, rfl, rfl, by decide +kernel, rfl, by decide +kernel, by decide +kernel⟩
abbrev famAttrs : List Str := ["size", "mentioned", "body", "otherwise", "cell", "into", "rows", "operand", "old", "new", "left", "right"]
def kp_Look {α : Type} (us ws : List α) : List α := match us, ws with | [u], [w0, w1] => [u, w1, w0] | _, _ => []
theorem kp_Look_rel {vs : List V} {us : List Value} {zs : List V} {ws : List Value} (r : Vals vs us) (q : Vals zs ws) : Vals (kp_Look vs zs) (kp_Look us ws) := by
  match r with
  | .nil => exact .nil
  | .cons _ (.cons _ _) => exact .nil
  | .cons r0 .nil =>
    match q with
    | .nil => exact .nil
    | .cons _ (.nil) => exact .nil
    | .cons q0 (.cons q1 (.nil)) => exact .cons r0 (.cons q1 (.cons q0 (.nil)))
    | .cons _ (.cons _ (.cons _ (_))) => exact .nil
def kp_Put {α : Type} (us ws : List α) : List α := match us, ws with | [u], [w0, w1] => [u, w1, w0] | _, _ => []
theorem kp_Put_rel {vs : List V} {us : List Value} {zs : List V} {ws : List Value} (r : Vals vs us) (q : Vals zs ws) : Vals (kp_Put vs zs) (kp_Put us ws) := by
  match r with
  | .nil => exact .nil
  | .cons _ (.cons _ _) => exact .nil
  | .cons r0 .nil =>
    match q with
    | .nil => exact .nil
    | .cons _ (.nil) => exact .nil
    | .cons q0 (.cons q1 (.nil)) => exact .cons r0 (.cons q1 (.cons q0 (.nil)))
    | .cons _ (.cons _ (.cons _ (_))) => exact .nil
def kp_Swap {α : Type} (us ws : List α) : List α := match us, ws with | [u], [w0, w1, w2] => [u, w1, w2, w0] | _, _ => []
theorem kp_Swap_rel {vs : List V} {us : List Value} {zs : List V} {ws : List Value} (r : Vals vs us) (q : Vals zs ws) : Vals (kp_Swap vs zs) (kp_Swap us ws) := by
  match r with
  | .nil => exact .nil
  | .cons _ (.cons _ _) => exact .nil
  | .cons r0 .nil =>
    match q with
    | .nil => exact .nil
    | .cons _ (.nil) => exact .nil
    | .cons _ (.cons _ (.nil)) => exact .nil
    | .cons q0 (.cons q1 (.cons q2 (.nil))) => exact .cons r0 (.cons q1 (.cons q2 (.cons q0 (.nil))))
    | .cons _ (.cons _ (.cons _ (.cons _ (_)))) => exact .nil
def kp_Try {α : Type} (us ws : List α) : List α := match us, ws with | [u], [w0, w1, w2, w3] => [u, w3, w2, w1, w0] | _, _ => []
theorem kp_Try_rel {vs : List V} {us : List Value} {zs : List V} {ws : List Value} (r : Vals vs us) (q : Vals zs ws) : Vals (kp_Try vs zs) (kp_Try us ws) := by
  match r with
  | .nil => exact .nil
  | .cons _ (.cons _ _) => exact .nil
  | .cons r0 .nil =>
    match q with
    | .nil => exact .nil
    | .cons _ (.nil) => exact .nil
    | .cons _ (.cons _ (.nil)) => exact .nil
    | .cons _ (.cons _ (.cons _ (.nil))) => exact .nil
    | .cons q0 (.cons q1 (.cons q2 (.cons q3 (.nil)))) => exact .cons r0 (.cons q3 (.cons q2 (.cons q1 (.cons q0 (.nil)))))
    | .cons _ (.cons _ (.cons _ (.cons _ (.cons _ (_))))) => exact .nil
def kp_Let {α : Type} (us ws : List α) : List α := match us, ws with | [u], [w0, w1] => [u, w1, w0] | _, _ => []
theorem kp_Let_rel {vs : List V} {us : List Value} {zs : List V} {ws : List Value} (r : Vals vs us) (q : Vals zs ws) : Vals (kp_Let vs zs) (kp_Let us ws) := by
  match r with
  | .nil => exact .nil
  | .cons _ (.cons _ _) => exact .nil
  | .cons r0 .nil =>
    match q with
    | .nil => exact .nil
    | .cons _ (.nil) => exact .nil
    | .cons q0 (.cons q1 (.nil)) => exact .cons r0 (.cons q1 (.cons q0 (.nil)))
    | .cons _ (.cons _ (.cons _ (_))) => exact .nil
def kp_Return {α : Type} (us ws : List α) : List α := match us, ws with | [u], [w0] => [u, w0] | _, _ => []
theorem kp_Return_rel {vs : List V} {us : List Value} {zs : List V} {ws : List Value} (r : Vals vs us) (q : Vals zs ws) : Vals (kp_Return vs zs) (kp_Return us ws) := by
  match r with
  | .nil => exact .nil
  | .cons _ (.cons _ _) => exact .nil
  | .cons r0 .nil =>
    match q with
    | .nil => exact .nil
    | .cons q0 (.nil) => exact .cons r0 (.cons q0 (.nil))
    | .cons _ (.cons _ (_)) => exact .nil
def kp_If {α : Type} (us ws : List α) : List α := match us, ws with | [u], [w0, w1, w2, w3] => [u, w3, w2, w1, w0] | _, _ => []
theorem kp_If_rel {vs : List V} {us : List Value} {zs : List V} {ws : List Value} (r : Vals vs us) (q : Vals zs ws) : Vals (kp_If vs zs) (kp_If us ws) := by
  match r with
  | .nil => exact .nil
  | .cons _ (.cons _ _) => exact .nil
  | .cons r0 .nil =>
    match q with
    | .nil => exact .nil
    | .cons _ (.nil) => exact .nil
    | .cons _ (.cons _ (.nil)) => exact .nil
    | .cons _ (.cons _ (.cons _ (.nil))) => exact .nil
    | .cons q0 (.cons q1 (.cons q2 (.cons q3 (.nil)))) => exact .cons r0 (.cons q3 (.cons q2 (.cons q1 (.cons q0 (.nil)))))
    | .cons _ (.cons _ (.cons _ (.cons _ (.cons _ (_))))) => exact .nil
def kp_Loop {α : Type} (us ws : List α) : List α := match us, ws with | [u], [w0] => [u, w0] | _, _ => []
theorem kp_Loop_rel {vs : List V} {us : List Value} {zs : List V} {ws : List Value} (r : Vals vs us) (q : Vals zs ws) : Vals (kp_Loop vs zs) (kp_Loop us ws) := by
  match r with
  | .nil => exact .nil
  | .cons _ (.cons _ _) => exact .nil
  | .cons r0 .nil =>
    match q with
    | .nil => exact .nil
    | .cons q0 (.nil) => exact .cons r0 (.cons q0 (.nil))
    | .cons _ (.cons _ (_)) => exact .nil
def kp_Joined {α : Type} (us ws : List α) : List α := match us, ws with | [u], [w0] => [u, w0] | _, _ => []
theorem kp_Joined_rel {vs : List V} {us : List Value} {zs : List V} {ws : List Value} (r : Vals vs us) (q : Vals zs ws) : Vals (kp_Joined vs zs) (kp_Joined us ws) := by
  match r with
  | .nil => exact .nil
  | .cons _ (.cons _ _) => exact .nil
  | .cons r0 .nil =>
    match q with
    | .nil => exact .nil
    | .cons q0 (.nil) => exact .cons r0 (.cons q0 (.nil))
    | .cons _ (.cons _ (_)) => exact .nil
structure Ads where
  t_MAX_STATEMENTS : Tok
  t_MAX_LEVEL : Tok
  t_LETTERS : Tok
  t_SIGNS : Tok
  t_NOTHING : Tok
  t_YES : Tok
  t_LONGEST : Tok
  u_TOGETHER : Addr
  c_Statement : Addr
  c_Look : Addr
  c_Put : Addr
  c_Swap : Addr
  c_Try : Addr
  c_Let : Addr
  c_If : Addr
  c_Loop : Addr
  c_Leave : Addr
  c_Return : Addr
  c_Joined : Addr
  a_is_name : Addr
  d_is_name : FuncData
  a_is_operand : Addr
  d_is_operand : FuncData
  a_check_name : Addr
  d_check_name : FuncData
  a_check_operand : Addr
  d_check_operand : FuncData
  a_Statement___init__ : Addr
  d_Statement___init__ : FuncData
  x_Statement___init___0 : Addr
  x_Statement___init___1 : Addr
  x_Statement___init___2 : Addr
  dt_Statement___init__ : Addr
  p_Statement_amount : Addr
  a_Statement_amount : Addr
  d_Statement_amount : FuncData
  p_Statement_level : Addr
  a_Statement_level : Addr
  d_Statement_level : FuncData
  a_Statement___eq__ : Addr
  d_Statement___eq__ : FuncData
  a_Statement___str__ : Addr
  d_Statement___str__ : FuncData
  a_Statement___repr__ : Addr
  d_Statement___repr__ : FuncData
  a_Look___init__ : Addr
  d_Look___init__ : FuncData
  cc_Look___init__ : Addr
  a_Put___init__ : Addr
  d_Put___init__ : FuncData
  cc_Put___init__ : Addr
  a_Swap___init__ : Addr
  d_Swap___init__ : FuncData
  cc_Swap___init__ : Addr
  a_Try___init__ : Addr
  d_Try___init__ : FuncData
  cc_Try___init__ : Addr
  a_Let___init__ : Addr
  d_Let___init__ : FuncData
  cc_Let___init__ : Addr
  a_If___init__ : Addr
  d_If___init__ : FuncData
  x_If___init___0 : Addr
  cc_If___init__ : Addr
  dt_If___init__ : Addr
  a_Loop___init__ : Addr
  d_Loop___init__ : FuncData
  cc_Loop___init__ : Addr
  a_Leave___init__ : Addr
  d_Leave___init__ : FuncData
  cc_Leave___init__ : Addr
  a_Return___init__ : Addr
  d_Return___init__ : FuncData
  cc_Return___init__ : Addr
  a_Joined___init__ : Addr
  d_Joined___init__ : FuncData
  cc_Joined___init__ : Addr
  a_indented : Addr
  d_indented : FuncData
  a_goes_together : Addr
  d_goes_together : FuncData
  a_check_body : Addr
  d_check_body : FuncData
  a_check_joined : Addr
  d_check_joined : FuncData
  a_law_number : Addr
  d_law_number : FuncData
  a_law_source : Addr
  d_law_source : FuncData
  a_law_take : Addr
  d_law_take : FuncData
  a_law_word : Addr
  d_law_word : FuncData
  a_law_words : Addr
  d_law_words : FuncData
  a_law_head : Addr
  d_law_head : FuncData
  a_law_bodies : Addr
  d_law_bodies : FuncData
  a_law_lines : Addr
  d_law_lines : FuncData
  a_law_made : Addr
  d_law_made : FuncData
  a_law_holding : Addr
  d_law_holding : FuncData
  a_law_size : Addr
  d_law_size : FuncData
  a_law_paces : Addr
  d_law_paces : FuncData
  a_law_line : Addr
  d_law_line : FuncData
  a_law_operand : Addr
  d_law_operand : FuncData
  a_law_statement : Addr
  d_law_statement : FuncData
  a_law_body : Addr
  d_law_body : FuncData
  a_law_fitting : Addr
  d_law_fitting : FuncData
  a_law_sides : Addr
  d_law_sides : FuncData
  a_law_holder : Addr
  d_law_holder : FuncData
  a_law_height : Addr
  d_law_height : FuncData
  a_law_bent : Addr
  d_law_bent : FuncData
  a_law_kinds : Addr
  d_law_kinds : FuncData
  a_law_is : Addr
  d_law_is : FuncData
  a_law_right : Addr
  d_law_right : FuncData
  a_law_by_hand : Addr
  d_law_by_hand : FuncData
  a_law : Addr
  d_law : FuncData
def adsOf (K : PySem.W.Frag) : Ads where
  t_MAX_STATEMENTS := tokOf K "MAX_STATEMENTS"
  t_MAX_LEVEL := tokOf K "MAX_LEVEL"
  t_LETTERS := tokOf K "LETTERS"
  t_SIGNS := tokOf K "SIGNS"
  t_NOTHING := tokOf K "NOTHING"
  t_YES := tokOf K "YES"
  t_LONGEST := tokOf K "LONGEST"
  u_TOGETHER := He.ga K "TOGETHER"
  c_Statement := He.ga K "Statement"
  c_Look := He.ga K "Look"
  c_Put := He.ga K "Put"
  c_Swap := He.ga K "Swap"
  c_Try := He.ga K "Try"
  c_Let := He.ga K "Let"
  c_If := He.ga K "If"
  c_Loop := He.ga K "Loop"
  c_Leave := He.ga K "Leave"
  c_Return := He.ga K "Return"
  c_Joined := He.ga K "Joined"
  a_is_name := He.ga K "is_name"
  d_is_name := fdOf K (He.ga K "is_name")
  a_is_operand := He.ga K "is_operand"
  d_is_operand := fdOf K (He.ga K "is_operand")
  a_check_name := He.ga K "check_name"
  d_check_name := fdOf K (He.ga K "check_name")
  a_check_operand := He.ga K "check_operand"
  d_check_operand := fdOf K (He.ga K "check_operand")
  a_Statement___init__ := He.ma K (He.ga K "Statement") "__init__"
  d_Statement___init__ := fdOf K (He.ma K (He.ga K "Statement") "__init__")
  x_Statement___init___0 := dxOf K (He.ma K (He.ga K "Statement") "__init__") 0
  x_Statement___init___1 := dxOf K (He.ma K (He.ga K "Statement") "__init__") 1
  x_Statement___init___2 := dxOf K (He.ma K (He.ga K "Statement") "__init__") 2
  dt_Statement___init__ := dtOf K (He.ma K (He.ga K "Statement") "__init__")
  p_Statement_amount := He.ma K (He.ga K "Statement") "amount"
  a_Statement_amount := pgOf K (He.ma K (He.ga K "Statement") "amount")
  d_Statement_amount := fdOf K (pgOf K (He.ma K (He.ga K "Statement") "amount"))
  p_Statement_level := He.ma K (He.ga K "Statement") "level"
  a_Statement_level := pgOf K (He.ma K (He.ga K "Statement") "level")
  d_Statement_level := fdOf K (pgOf K (He.ma K (He.ga K "Statement") "level"))
  a_Statement___eq__ := He.ma K (He.ga K "Statement") "__eq__"
  d_Statement___eq__ := fdOf K (He.ma K (He.ga K "Statement") "__eq__")
  a_Statement___str__ := He.ma K (He.ga K "Statement") "__str__"
  d_Statement___str__ := fdOf K (He.ma K (He.ga K "Statement") "__str__")
  a_Statement___repr__ := He.ma K (He.ga K "Statement") "__repr__"
  d_Statement___repr__ := fdOf K (He.ma K (He.ga K "Statement") "__repr__")
  a_Look___init__ := He.ma K (He.ga K "Look") "__init__"
  d_Look___init__ := fdOf K (He.ma K (He.ga K "Look") "__init__")
  cc_Look___init__ := cellOf K (He.ma K (He.ga K "Look") "__init__")
  a_Put___init__ := He.ma K (He.ga K "Put") "__init__"
  d_Put___init__ := fdOf K (He.ma K (He.ga K "Put") "__init__")
  cc_Put___init__ := cellOf K (He.ma K (He.ga K "Put") "__init__")
  a_Swap___init__ := He.ma K (He.ga K "Swap") "__init__"
  d_Swap___init__ := fdOf K (He.ma K (He.ga K "Swap") "__init__")
  cc_Swap___init__ := cellOf K (He.ma K (He.ga K "Swap") "__init__")
  a_Try___init__ := He.ma K (He.ga K "Try") "__init__"
  d_Try___init__ := fdOf K (He.ma K (He.ga K "Try") "__init__")
  cc_Try___init__ := cellOf K (He.ma K (He.ga K "Try") "__init__")
  a_Let___init__ := He.ma K (He.ga K "Let") "__init__"
  d_Let___init__ := fdOf K (He.ma K (He.ga K "Let") "__init__")
  cc_Let___init__ := cellOf K (He.ma K (He.ga K "Let") "__init__")
  a_If___init__ := He.ma K (He.ga K "If") "__init__"
  d_If___init__ := fdOf K (He.ma K (He.ga K "If") "__init__")
  x_If___init___0 := dxOf K (He.ma K (He.ga K "If") "__init__") 0
  cc_If___init__ := cellOf K (He.ma K (He.ga K "If") "__init__")
  dt_If___init__ := dtOf K (He.ma K (He.ga K "If") "__init__")
  a_Loop___init__ := He.ma K (He.ga K "Loop") "__init__"
  d_Loop___init__ := fdOf K (He.ma K (He.ga K "Loop") "__init__")
  cc_Loop___init__ := cellOf K (He.ma K (He.ga K "Loop") "__init__")
  a_Leave___init__ := He.ma K (He.ga K "Leave") "__init__"
  d_Leave___init__ := fdOf K (He.ma K (He.ga K "Leave") "__init__")
  cc_Leave___init__ := cellOf K (He.ma K (He.ga K "Leave") "__init__")
  a_Return___init__ := He.ma K (He.ga K "Return") "__init__"
  d_Return___init__ := fdOf K (He.ma K (He.ga K "Return") "__init__")
  cc_Return___init__ := cellOf K (He.ma K (He.ga K "Return") "__init__")
  a_Joined___init__ := He.ma K (He.ga K "Joined") "__init__"
  d_Joined___init__ := fdOf K (He.ma K (He.ga K "Joined") "__init__")
  cc_Joined___init__ := cellOf K (He.ma K (He.ga K "Joined") "__init__")
  a_indented := He.ga K "indented"
  d_indented := fdOf K (He.ga K "indented")
  a_goes_together := He.ga K "goes_together"
  d_goes_together := fdOf K (He.ga K "goes_together")
  a_check_body := He.ga K "check_body"
  d_check_body := fdOf K (He.ga K "check_body")
  a_check_joined := He.ga K "check_joined"
  d_check_joined := fdOf K (He.ga K "check_joined")
  a_law_number := He.ga K "_law_number"
  d_law_number := fdOf K (He.ga K "_law_number")
  a_law_source := He.ga K "_law_source"
  d_law_source := fdOf K (He.ga K "_law_source")
  a_law_take := He.ga K "_law_take"
  d_law_take := fdOf K (He.ga K "_law_take")
  a_law_word := He.ga K "_law_word"
  d_law_word := fdOf K (He.ga K "_law_word")
  a_law_words := He.ga K "_law_words"
  d_law_words := fdOf K (He.ga K "_law_words")
  a_law_head := He.ga K "_law_head"
  d_law_head := fdOf K (He.ga K "_law_head")
  a_law_bodies := He.ga K "_law_bodies"
  d_law_bodies := fdOf K (He.ga K "_law_bodies")
  a_law_lines := He.ga K "_law_lines"
  d_law_lines := fdOf K (He.ga K "_law_lines")
  a_law_made := He.ga K "_law_made"
  d_law_made := fdOf K (He.ga K "_law_made")
  a_law_holding := He.ga K "_law_holding"
  d_law_holding := fdOf K (He.ga K "_law_holding")
  a_law_size := He.ga K "_law_size"
  d_law_size := fdOf K (He.ga K "_law_size")
  a_law_paces := He.ga K "_law_paces"
  d_law_paces := fdOf K (He.ga K "_law_paces")
  a_law_line := He.ga K "_law_line"
  d_law_line := fdOf K (He.ga K "_law_line")
  a_law_operand := He.ga K "_law_operand"
  d_law_operand := fdOf K (He.ga K "_law_operand")
  a_law_statement := He.ga K "_law_statement"
  d_law_statement := fdOf K (He.ga K "_law_statement")
  a_law_body := He.ga K "_law_body"
  d_law_body := fdOf K (He.ga K "_law_body")
  a_law_fitting := He.ga K "_law_fitting"
  d_law_fitting := fdOf K (He.ga K "_law_fitting")
  a_law_sides := He.ga K "_law_sides"
  d_law_sides := fdOf K (He.ga K "_law_sides")
  a_law_holder := He.ga K "_law_holder"
  d_law_holder := fdOf K (He.ga K "_law_holder")
  a_law_height := He.ga K "_law_height"
  d_law_height := fdOf K (He.ga K "_law_height")
  a_law_bent := He.ga K "_law_bent"
  d_law_bent := fdOf K (He.ga K "_law_bent")
  a_law_kinds := He.ga K "_law_kinds"
  d_law_kinds := fdOf K (He.ga K "_law_kinds")
  a_law_is := He.ga K "_law_is"
  d_law_is := fdOf K (He.ga K "_law_is")
  a_law_right := He.ga K "_law_right"
  d_law_right := fdOf K (He.ga K "_law_right")
  a_law_by_hand := He.ga K "_law_by_hand"
  d_law_by_hand := fdOf K (He.ga K "_law_by_hand")
  a_law := He.ga K "law"
  d_law := fdOf K (He.ga K "law")
def Ads.fam (A : Ads) : List Addr := [A.c_Look, A.c_Put, A.c_Swap, A.c_Try, A.c_Let, A.c_Leave, A.c_Return, A.c_If, A.c_Loop, A.c_Joined]
structure Txt (K : PySem.W.Frag) (mg : Str → Option Value) (A : Ads) : Prop where
  b_abs : mg "abs" = none
  b_all : mg "all" = none
  b_divmod : mg "divmod" = none
  b_enumerate : mg "enumerate" = none
  b_int : mg "int" = none
  b_isinstance : mg "isinstance" = none
  b_len : mg "len" = none
  b_list : mg "list" = none
  b_max : mg "max" = none
  b_min : mg "min" = none
  b_property : mg "property" = none
  b_range : mg "range" = none
  b_repr : mg "repr" = none
  b_str : mg "str" = none
  b_sum : mg "sum" = none
  b_super : mg "super" = none
  b_tuple : mg "tuple" = none
  c_MAX_STATEMENTS : mg "MAX_STATEMENTS" = some (.int (40) A.t_MAX_STATEMENTS)
  c_MAX_LEVEL : mg "MAX_LEVEL" = some (.int (5) A.t_MAX_LEVEL)
  c_LETTERS : mg "LETTERS" = some (.str "abcdefghijklmnopqrstuvwxyz" A.t_LETTERS)
  c_SIGNS : mg "SIGNS" = some (.str "abcdefghijklmnopqrstuvwxyz0123456789" A.t_SIGNS)
  c_NOTHING : mg "NOTHING" = some (.str "nothing" A.t_NOTHING)
  c_YES : mg "YES" = some (.str "yes" A.t_YES)
  c_LONGEST : mg "LONGEST" = some (.int (8) A.t_LONGEST)
  c_TOGETHER : mg "TOGETHER" = some (.ref A.u_TOGETHER)
  s_TOGETHER : ∀ H, SqT K H A.u_TOGETHER [.str "look", .str "put", .str "swap", .str "try", .str "let", .str "if"]
  m_Statement : mg "Statement" = some (.ref A.c_Statement)
  m_Look : mg "Look" = some (.ref A.c_Look)
  m_Put : mg "Put" = some (.ref A.c_Put)
  m_Swap : mg "Swap" = some (.ref A.c_Swap)
  m_Try : mg "Try" = some (.ref A.c_Try)
  m_Let : mg "Let" = some (.ref A.c_Let)
  m_If : mg "If" = some (.ref A.c_If)
  m_Loop : mg "Loop" = some (.ref A.c_Loop)
  m_Leave : mg "Leave" = some (.ref A.c_Leave)
  m_Return : mg "Return" = some (.ref A.c_Return)
  m_Joined : mg "Joined" = some (.ref A.c_Joined)
  f_is_name : Fun K "is_name" "is_name" st_is_name A.a_is_name A.d_is_name
  k_is_name : PySem.W.keepIn K (.ref A.a_is_name) = true
  v_is_name : Binds K A.d_is_name ["value"] []
  m_is_name : mg "is_name" = some (.ref A.a_is_name)
  f_is_operand : Fun K "is_operand" "is_operand" st_is_operand A.a_is_operand A.d_is_operand
  k_is_operand : PySem.W.keepIn K (.ref A.a_is_operand) = true
  v_is_operand : Binds K A.d_is_operand ["value"] []
  m_is_operand : mg "is_operand" = some (.ref A.a_is_operand)
  f_check_name : Fun K "check_name" "check_name" st_check_name A.a_check_name A.d_check_name
  k_check_name : PySem.W.keepIn K (.ref A.a_check_name) = true
  v_check_name : Binds K A.d_check_name ["value"] []
  m_check_name : mg "check_name" = some (.ref A.a_check_name)
  f_check_operand : Fun K "check_operand" "check_operand" st_check_operand A.a_check_operand A.d_check_operand
  k_check_operand : PySem.W.keepIn K (.ref A.a_check_operand) = true
  v_check_operand : Binds K A.d_check_operand ["value"] []
  m_check_operand : mg "check_operand" = some (.ref A.a_check_operand)
  f_Statement___init__ : FunV K "__init__" "Statement.__init__" st_Statement___init__ (.ref A.dt_Statement___init__) A.a_Statement___init__ A.d_Statement___init__
  k_Statement___init__ : PySem.W.keepIn K (.ref A.a_Statement___init__) = true
  vd_Statement___init___1 : Binds K A.d_Statement___init__ ["self", "line", "mentioned", "body", "otherwise"] [.ref A.x_Statement___init___0, .ref A.x_Statement___init___1, .ref A.x_Statement___init___2]
  vd_Statement___init___2 : Binds K A.d_Statement___init__ ["self", "line", "mentioned", "body", "otherwise"] [.ref A.x_Statement___init___1, .ref A.x_Statement___init___2]
  vd_Statement___init___3 : Binds K A.d_Statement___init__ ["self", "line", "mentioned", "body", "otherwise"] [.ref A.x_Statement___init___2]
  vd_Statement___init___4 : Binds K A.d_Statement___init__ ["self", "line", "mentioned", "body", "otherwise"] []
  e_Statement___init___0 : ∀ H, SqT K H A.x_Statement___init___0 []
  t_Statement___init___0 : ∀ H, TyX K H (.ref A.x_Statement___init___0) (.type "tuple")
  e_Statement___init___1 : ∀ H, SqT K H A.x_Statement___init___1 []
  t_Statement___init___1 : ∀ H, TyX K H (.ref A.x_Statement___init___1) (.type "tuple")
  e_Statement___init___2 : ∀ H, SqT K H A.x_Statement___init___2 []
  t_Statement___init___2 : ∀ H, TyX K H (.ref A.x_Statement___init___2) (.type "tuple")
  fi_Statement___init__ : PySem.W.fnIn K A.a_Statement___init__ = true
  ft_Statement___init__ : PySem.W.typeIn K (.ref A.a_Statement___init__) = some (.type "function")
  f_Statement_amount : Fun K "amount" "Statement.amount" st_Statement_amount A.a_Statement_amount A.d_Statement_amount
  k_Statement_amount : PySem.W.keepIn K (.ref A.a_Statement_amount) = true
  v_Statement_amount : Binds K A.d_Statement_amount ["self"] []
  f_Statement_level : Fun K "level" "Statement.level" st_Statement_level A.a_Statement_level A.d_Statement_level
  k_Statement_level : PySem.W.keepIn K (.ref A.a_Statement_level) = true
  v_Statement_level : Binds K A.d_Statement_level ["self"] []
  f_Statement___eq__ : Fun K "__eq__" "Statement.__eq__" st_Statement___eq__ A.a_Statement___eq__ A.d_Statement___eq__
  k_Statement___eq__ : PySem.W.keepIn K (.ref A.a_Statement___eq__) = true
  v_Statement___eq__ : Binds K A.d_Statement___eq__ ["self", "other"] []
  f_Statement___str__ : Fun K "__str__" "Statement.__str__" st_Statement___str__ A.a_Statement___str__ A.d_Statement___str__
  k_Statement___str__ : PySem.W.keepIn K (.ref A.a_Statement___str__) = true
  v_Statement___str__ : Binds K A.d_Statement___str__ ["self"] []
  f_Statement___repr__ : Fun K "__repr__" "Statement.__repr__" st_Statement___repr__ A.a_Statement___repr__ A.d_Statement___repr__
  k_Statement___repr__ : PySem.W.keepIn K (.ref A.a_Statement___repr__) = true
  v_Statement___repr__ : Binds K A.d_Statement___repr__ ["self"] []
  f_Look___init__ : SFun P K "__init__" "Look.__init__" st_Look___init__ A.a_Look___init__ A.d_Look___init__ A.cc_Look___init__ A.c_Look
  k_Look___init__ : PySem.W.keepIn K (.ref A.a_Look___init__) = true
  v_Look___init__ : Binds K A.d_Look___init__ ["self", "cell", "into"] []
  f_Put___init__ : SFun P K "__init__" "Put.__init__" st_Put___init__ A.a_Put___init__ A.d_Put___init__ A.cc_Put___init__ A.c_Put
  k_Put___init__ : PySem.W.keepIn K (.ref A.a_Put___init__) = true
  v_Put___init__ : Binds K A.d_Put___init__ ["self", "cell", "operand"] []
  f_Swap___init__ : SFun P K "__init__" "Swap.__init__" st_Swap___init__ A.a_Swap___init__ A.d_Swap___init__ A.cc_Swap___init__ A.c_Swap
  k_Swap___init__ : PySem.W.keepIn K (.ref A.a_Swap___init__) = true
  v_Swap___init__ : Binds K A.d_Swap___init__ ["self", "cell", "operand", "into"] []
  f_Try___init__ : SFun P K "__init__" "Try.__init__" st_Try___init__ A.a_Try___init__ A.d_Try___init__ A.cc_Try___init__ A.c_Try
  k_Try___init__ : PySem.W.keepIn K (.ref A.a_Try___init__) = true
  v_Try___init__ : Binds K A.d_Try___init__ ["self", "cell", "old", "new", "into"] []
  f_Let___init__ : SFun P K "__init__" "Let.__init__" st_Let___init__ A.a_Let___init__ A.d_Let___init__ A.cc_Let___init__ A.c_Let
  k_Let___init__ : PySem.W.keepIn K (.ref A.a_Let___init__) = true
  v_Let___init__ : Binds K A.d_Let___init__ ["self", "into", "operand"] []
  f_If___init__ : SFun P K "__init__" "If.__init__" st_If___init__ A.a_If___init__ A.d_If___init__ A.cc_If___init__ A.c_If
  k_If___init__ : PySem.W.keepIn K (.ref A.a_If___init__) = true
  vd_If___init___3 : Binds K A.d_If___init__ ["self", "left", "right", "body", "otherwise"] [.ref A.x_If___init___0]
  vd_If___init___4 : Binds K A.d_If___init__ ["self", "left", "right", "body", "otherwise"] []
  e_If___init___0 : ∀ H, SqT K H A.x_If___init___0 []
  t_If___init___0 : ∀ H, TyX K H (.ref A.x_If___init___0) (.type "tuple")
  f_Loop___init__ : SFun P K "__init__" "Loop.__init__" st_Loop___init__ A.a_Loop___init__ A.d_Loop___init__ A.cc_Loop___init__ A.c_Loop
  k_Loop___init__ : PySem.W.keepIn K (.ref A.a_Loop___init__) = true
  v_Loop___init__ : Binds K A.d_Loop___init__ ["self", "body"] []
  f_Leave___init__ : SFun P K "__init__" "Leave.__init__" st_Leave___init__ A.a_Leave___init__ A.d_Leave___init__ A.cc_Leave___init__ A.c_Leave
  k_Leave___init__ : PySem.W.keepIn K (.ref A.a_Leave___init__) = true
  v_Leave___init__ : Binds K A.d_Leave___init__ ["self"] []
  f_Return___init__ : SFun P K "__init__" "Return.__init__" st_Return___init__ A.a_Return___init__ A.d_Return___init__ A.cc_Return___init__ A.c_Return
  k_Return___init__ : PySem.W.keepIn K (.ref A.a_Return___init__) = true
  v_Return___init__ : Binds K A.d_Return___init__ ["self", "operand"] []
  f_Joined___init__ : SFun P K "__init__" "Joined.__init__" st_Joined___init__ A.a_Joined___init__ A.d_Joined___init__ A.cc_Joined___init__ A.c_Joined
  k_Joined___init__ : PySem.W.keepIn K (.ref A.a_Joined___init__) = true
  v_Joined___init__ : Binds K A.d_Joined___init__ ["self", "body"] []
  f_indented : Fun K "indented" "indented" st_indented A.a_indented A.d_indented
  k_indented : PySem.W.keepIn K (.ref A.a_indented) = true
  v_indented : Binds K A.d_indented ["body"] []
  m_indented : mg "indented" = some (.ref A.a_indented)
  f_goes_together : Fun K "goes_together" "goes_together" st_goes_together A.a_goes_together A.d_goes_together
  k_goes_together : PySem.W.keepIn K (.ref A.a_goes_together) = true
  v_goes_together : Binds K A.d_goes_together ["part"] []
  m_goes_together : mg "goes_together" = some (.ref A.a_goes_together)
  f_check_body : Fun K "check_body" "check_body" st_check_body A.a_check_body A.d_check_body
  k_check_body : PySem.W.keepIn K (.ref A.a_check_body) = true
  v_check_body : Binds K A.d_check_body ["value"] []
  m_check_body : mg "check_body" = some (.ref A.a_check_body)
  f_check_joined : Fun K "check_joined" "check_joined" st_check_joined A.a_check_joined A.d_check_joined
  k_check_joined : PySem.W.keepIn K (.ref A.a_check_joined) = true
  v_check_joined : Binds K A.d_check_joined ["value"] []
  m_check_joined : mg "check_joined" = some (.ref A.a_check_joined)
  f_law_number : Fun K "_law_number" "_law_number" st_law_number A.a_law_number A.d_law_number
  k_law_number : PySem.W.keepIn K (.ref A.a_law_number) = true
  v_law_number : Binds K A.d_law_number ["_law_numbers", "_law_k"] []
  m_law_number : mg "_law_number" = some (.ref A.a_law_number)
  f_law_source : Fun K "_law_source" "_law_source" st_law_source A.a_law_source A.d_law_source
  k_law_source : PySem.W.keepIn K (.ref A.a_law_source) = true
  v_law_source : Binds K A.d_law_source ["_law_number_here"] []
  m_law_source : mg "_law_source" = some (.ref A.a_law_source)
  f_law_take : Fun K "_law_take" "_law_take" st_law_take A.a_law_take A.d_law_take
  k_law_take : PySem.W.keepIn K (.ref A.a_law_take) = true
  v_law_take : Binds K A.d_law_take ["_law_source_here", "_law_many"] []
  m_law_take : mg "_law_take" = some (.ref A.a_law_take)
  f_law_word : Fun K "_law_word" "_law_word" st_law_word A.a_law_word A.d_law_word
  k_law_word : PySem.W.keepIn K (.ref A.a_law_word) = true
  v_law_word : Binds K A.d_law_word ["_law_source_here"] []
  m_law_word : mg "_law_word" = some (.ref A.a_law_word)
  f_law_words : Fun K "_law_words" "_law_words" st_law_words A.a_law_words A.d_law_words
  k_law_words : PySem.W.keepIn K (.ref A.a_law_words) = true
  v_law_words : Binds K A.d_law_words ["_law_source_here", "_law_many"] []
  m_law_words : mg "_law_words" = some (.ref A.a_law_words)
  f_law_head : Fun K "_law_head" "_law_head" st_law_head A.a_law_head A.d_law_head
  k_law_head : PySem.W.keepIn K (.ref A.a_law_head) = true
  v_law_head : Binds K A.d_law_head ["_law_tree"] []
  m_law_head : mg "_law_head" = some (.ref A.a_law_head)
  f_law_bodies : Fun K "_law_bodies" "_law_bodies" st_law_bodies A.a_law_bodies A.d_law_bodies
  k_law_bodies : PySem.W.keepIn K (.ref A.a_law_bodies) = true
  v_law_bodies : Binds K A.d_law_bodies ["_law_tree"] []
  m_law_bodies : mg "_law_bodies" = some (.ref A.a_law_bodies)
  f_law_lines : Fun K "_law_lines" "_law_lines" st_law_lines A.a_law_lines A.d_law_lines
  k_law_lines : PySem.W.keepIn K (.ref A.a_law_lines) = true
  v_law_lines : Binds K A.d_law_lines ["_law_trees", "_law_indent"] []
  m_law_lines : mg "_law_lines" = some (.ref A.a_law_lines)
  f_law_made : Fun K "_law_made" "_law_made" st_law_made A.a_law_made A.d_law_made
  k_law_made : PySem.W.keepIn K (.ref A.a_law_made) = true
  v_law_made : Binds K A.d_law_made ["_law_source_here", "_law_tree"] []
  m_law_made : mg "_law_made" = some (.ref A.a_law_made)
  f_law_holding : Fun K "_law_holding" "_law_holding" st_law_holding A.a_law_holding A.d_law_holding
  k_law_holding : PySem.W.keepIn K (.ref A.a_law_holding) = true
  v_law_holding : Binds K A.d_law_holding ["_law_source_here", "_law_tree", "_law_way"] []
  m_law_holding : mg "_law_holding" = some (.ref A.a_law_holding)
  f_law_size : Fun K "_law_size" "_law_size" st_law_size A.a_law_size A.d_law_size
  k_law_size : PySem.W.keepIn K (.ref A.a_law_size) = true
  v_law_size : Binds K A.d_law_size ["_law_trees"] []
  m_law_size : mg "_law_size" = some (.ref A.a_law_size)
  f_law_paces : Fun K "_law_paces" "_law_paces" st_law_paces A.a_law_paces A.d_law_paces
  k_law_paces : PySem.W.keepIn K (.ref A.a_law_paces) = true
  v_law_paces : Binds K A.d_law_paces ["_law_trees"] []
  m_law_paces : mg "_law_paces" = some (.ref A.a_law_paces)
  f_law_line : Fun K "_law_line" "_law_line" st_law_line A.a_law_line A.d_law_line
  k_law_line : PySem.W.keepIn K (.ref A.a_law_line) = true
  v_law_line : Binds K A.d_law_line ["_law_source_here", "_law_world"] []
  m_law_line : mg "_law_line" = some (.ref A.a_law_line)
  f_law_operand : Fun K "_law_operand" "_law_operand" st_law_operand A.a_law_operand A.d_law_operand
  k_law_operand : PySem.W.keepIn K (.ref A.a_law_operand) = true
  v_law_operand : Binds K A.d_law_operand ["_law_source_here", "_law_names"] []
  m_law_operand : mg "_law_operand" = some (.ref A.a_law_operand)
  f_law_statement : Fun K "_law_statement" "_law_statement" st_law_statement A.a_law_statement A.d_law_statement
  k_law_statement : PySem.W.keepIn K (.ref A.a_law_statement) = true
  v_law_statement : Binds K A.d_law_statement ["_law_source_here", "_law_world", "_law_deep", "_law_sort"] []
  m_law_statement : mg "_law_statement" = some (.ref A.a_law_statement)
  f_law_body : Fun K "_law_body" "_law_body" st_law_body A.a_law_body A.d_law_body
  k_law_body : PySem.W.keepIn K (.ref A.a_law_body) = true
  v_law_body : Binds K A.d_law_body ["_law_source_here", "_law_world", "_law_deep", "_law_sort"] []
  m_law_body : mg "_law_body" = some (.ref A.a_law_body)
  f_law_fitting : Fun K "_law_fitting" "_law_fitting" st_law_fitting A.a_law_fitting A.d_law_fitting
  k_law_fitting : PySem.W.keepIn K (.ref A.a_law_fitting) = true
  v_law_fitting : Binds K A.d_law_fitting ["_law_trees", "_law_most", "_law_paces_here"] []
  m_law_fitting : mg "_law_fitting" = some (.ref A.a_law_fitting)
  f_law_sides : Fun K "_law_sides" "_law_sides" st_law_sides A.a_law_sides A.d_law_sides
  k_law_sides : PySem.W.keepIn K (.ref A.a_law_sides) = true
  v_law_sides : Binds K A.d_law_sides ["_law_source_here", "_law_world", "_law_sort"] []
  m_law_sides : mg "_law_sides" = some (.ref A.a_law_sides)
  f_law_holder : Fun K "_law_holder" "_law_holder" st_law_holder A.a_law_holder A.d_law_holder
  k_law_holder : PySem.W.keepIn K (.ref A.a_law_holder) = true
  v_law_holder : Binds K A.d_law_holder ["_law_source_here", "_law_world"] []
  m_law_holder : mg "_law_holder" = some (.ref A.a_law_holder)
  f_law_height : Fun K "_law_height" "_law_height" st_law_height A.a_law_height A.d_law_height
  k_law_height : PySem.W.keepIn K (.ref A.a_law_height) = true
  v_law_height : Binds K A.d_law_height ["_law_tree"] []
  m_law_height : mg "_law_height" = some (.ref A.a_law_height)
  f_law_bent : Fun K "_law_bent" "_law_bent" st_law_bent A.a_law_bent A.d_law_bent
  k_law_bent : PySem.W.keepIn K (.ref A.a_law_bent) = true
  v_law_bent : Binds K A.d_law_bent ["_law_source_here", "_law_tree"] []
  m_law_bent : mg "_law_bent" = some (.ref A.a_law_bent)
  f_law_kinds : Fun K "_law_kinds" "_law_kinds" st_law_kinds A.a_law_kinds A.d_law_kinds
  k_law_kinds : PySem.W.keepIn K (.ref A.a_law_kinds) = true
  v_law_kinds : Binds K A.d_law_kinds ["_law_thing"] []
  m_law_kinds : mg "_law_kinds" = some (.ref A.a_law_kinds)
  f_law_is : Fun K "_law_is" "_law_is" st_law_is A.a_law_is A.d_law_is
  k_law_is : PySem.W.keepIn K (.ref A.a_law_is) = true
  v_law_is : Binds K A.d_law_is ["_law_thing", "_law_tree"] []
  m_law_is : mg "_law_is" = some (.ref A.a_law_is)
  f_law_right : Fun K "_law_right" "_law_right" st_law_right A.a_law_right A.d_law_right
  k_law_right : PySem.W.keepIn K (.ref A.a_law_right) = true
  v_law_right : Binds K A.d_law_right ["_law_source_here"] []
  m_law_right : mg "_law_right" = some (.ref A.a_law_right)
  f_law_by_hand : Fun K "_law_by_hand" "_law_by_hand" st_law_by_hand A.a_law_by_hand A.d_law_by_hand
  k_law_by_hand : PySem.W.keepIn K (.ref A.a_law_by_hand) = true
  v_law_by_hand : Binds K A.d_law_by_hand [] []
  m_law_by_hand : mg "_law_by_hand" = some (.ref A.a_law_by_hand)
  f_law : Fun K "law" "law" st_law A.a_law A.d_law
  k_law : PySem.W.keepIn K (.ref A.a_law) = true
  v_law : Binds K A.d_law ["_law_numbers"] []
  m_law : mg "law" = some (.ref A.a_law)
  famB : FamC K A.c_Statement famAttrs
  fam : ∀ C ∈ A.fam, FamC K C famAttrs
  tab : ∀ (i j : Nat) (C D : Addr), A.fam[i]? = some C → A.fam[j]? = some D → PySem.W.kitOne K (.ref C) (.ref D) = some (i == j) ∧ PySem.W.notFirst K C (.ref D) = true
  sub : ∀ C ∈ A.fam, PySem.W.mroIn K C (.ref A.c_Statement) = some true ∧ PySem.W.kitOne K (.ref C) (.ref A.c_Statement) = some true
  slf : ∀ C ∈ A.fam, PySem.W.mroIn K C (.ref C) = some true
  sup : ∀ C ∈ A.fam, PySem.W.ks_superIn K C C "__init__" = some (some (.ref A.a_Statement___init__))
  pr_Statement_amount : ∀ C ∈ A.fam, Cls K C ∧ PropOf K C "amount" A.p_Statement_amount A.a_Statement_amount
  pr_Statement_level : ∀ C ∈ A.fam, Cls K C ∧ PropOf K C "level" A.p_Statement_level A.a_Statement_level
  sp_Statement___eq__ : ∀ C ∈ A.fam, Spc K C "__eq__" A.a_Statement___eq__
  sp_Statement___str__ : ∀ C ∈ A.fam, Spc K C "__str__" A.a_Statement___str__
  sp_Statement___repr__ : ∀ C ∈ A.fam, Spc K C "__repr__" A.a_Statement___repr__
  crd : ∀ C ∈ A.fam, ClX.CRead K C (.type "type")
  co_Look : ∃ u, Con K A.c_Look "WORD" (.str "look") u
  cv_Look : ∃ u, ClX.CVal K A.c_Look (.type "type") "WORD" (.str "look") u
  co_Put : ∃ u, Con K A.c_Put "WORD" (.str "put") u
  cv_Put : ∃ u, ClX.CVal K A.c_Put (.type "type") "WORD" (.str "put") u
  co_Swap : ∃ u, Con K A.c_Swap "WORD" (.str "swap") u
  cv_Swap : ∃ u, ClX.CVal K A.c_Swap (.type "type") "WORD" (.str "swap") u
  co_Try : ∃ u, Con K A.c_Try "WORD" (.str "try") u
  cv_Try : ∃ u, ClX.CVal K A.c_Try (.type "type") "WORD" (.str "try") u
  co_Let : ∃ u, Con K A.c_Let "WORD" (.str "let") u
  cv_Let : ∃ u, ClX.CVal K A.c_Let (.type "type") "WORD" (.str "let") u
  co_Leave : ∃ u, Con K A.c_Leave "WORD" (.str "leave") u
  cv_Leave : ∃ u, ClX.CVal K A.c_Leave (.type "type") "WORD" (.str "leave") u
  co_Return : ∃ u, Con K A.c_Return "WORD" (.str "return") u
  cv_Return : ∃ u, ClX.CVal K A.c_Return (.type "type") "WORD" (.str "return") u
  co_If : ∃ u, Con K A.c_If "WORD" (.str "if") u
  cv_If : ∃ u, ClX.CVal K A.c_If (.type "type") "WORD" (.str "if") u
  co_Loop : ∃ u, Con K A.c_Loop "WORD" (.str "loop") u
  cv_Loop : ∃ u, ClX.CVal K A.c_Loop (.type "type") "WORD" (.str "loop") u
  co_Joined : ∃ u, Con K A.c_Joined "WORD" (.str "joined") u
  cv_Joined : ∃ u, ClX.CVal K A.c_Joined (.type "type") "WORD" (.str "joined") u
  mk_Look : Mk K A.c_Look A.a_Look___init__
  kb_Look : KBn K A.d_Look___init__ ["self", "cell", "into"] 1 ["into", "cell"] kp_Look kp_Look
  mk_Put : Mk K A.c_Put A.a_Put___init__
  kb_Put : KBn K A.d_Put___init__ ["self", "cell", "operand"] 1 ["operand", "cell"] kp_Put kp_Put
  mk_Swap : Mk K A.c_Swap A.a_Swap___init__
  kb_Swap : KBn K A.d_Swap___init__ ["self", "cell", "operand", "into"] 1 ["into", "cell", "operand"] kp_Swap kp_Swap
  mk_Try : Mk K A.c_Try A.a_Try___init__
  kb_Try : KBn K A.d_Try___init__ ["self", "cell", "old", "new", "into"] 1 ["into", "new", "old", "cell"] kp_Try kp_Try
  mk_Let : Mk K A.c_Let A.a_Let___init__
  kb_Let : KBn K A.d_Let___init__ ["self", "into", "operand"] 1 ["operand", "into"] kp_Let kp_Let
  mk_Leave : Mk K A.c_Leave A.a_Leave___init__
  mk_Return : Mk K A.c_Return A.a_Return___init__
  kb_Return : KBn K A.d_Return___init__ ["self", "operand"] 1 ["operand"] kp_Return kp_Return
  mk_If : Mk K A.c_If A.a_If___init__
  kb_If : KBn K A.d_If___init__ ["self", "left", "right", "body", "otherwise"] 1 ["otherwise", "body", "right", "left"] kp_If kp_If
  mk_Loop : Mk K A.c_Loop A.a_Loop___init__
  kb_Loop : KBn K A.d_Loop___init__ ["self", "body"] 1 ["body"] kp_Loop kp_Loop
  mk_Joined : Mk K A.c_Joined A.a_Joined___init__
  kb_Joined : KBn K A.d_Joined___init__ ["self", "body"] 1 ["body"] kp_Joined kp_Joined
def chkA (K : PySem.W.Frag) (A : Ads) : List Bool := [
  decide (PySem.W.nsIn K mainGlobals "abs" = some none),
  decide (PySem.W.nsIn K mainGlobals "all" = some none),
  decide (PySem.W.nsIn K mainGlobals "divmod" = some none),
  decide (PySem.W.nsIn K mainGlobals "enumerate" = some none),
  decide (PySem.W.nsIn K mainGlobals "int" = some none),
  decide (PySem.W.nsIn K mainGlobals "isinstance" = some none),
  decide (PySem.W.nsIn K mainGlobals "len" = some none),
  decide (PySem.W.nsIn K mainGlobals "list" = some none),
  decide (PySem.W.nsIn K mainGlobals "max" = some none),
  decide (PySem.W.nsIn K mainGlobals "min" = some none),
  decide (PySem.W.nsIn K mainGlobals "property" = some none),
  decide (PySem.W.nsIn K mainGlobals "range" = some none),
  decide (PySem.W.nsIn K mainGlobals "repr" = some none),
  decide (PySem.W.nsIn K mainGlobals "str" = some none),
  decide (PySem.W.nsIn K mainGlobals "sum" = some none),
  decide (PySem.W.nsIn K mainGlobals "super" = some none),
  decide (PySem.W.nsIn K mainGlobals "tuple" = some none),
  decide (PySem.W.nsIn K mainGlobals "MAX_STATEMENTS" = some (some (.int (40) A.t_MAX_STATEMENTS))),
  decide (PySem.W.nsIn K mainGlobals "MAX_LEVEL" = some (some (.int (5) A.t_MAX_LEVEL))),
  decide (PySem.W.nsIn K mainGlobals "LETTERS" = some (some (.str "abcdefghijklmnopqrstuvwxyz" A.t_LETTERS))),
  decide (PySem.W.nsIn K mainGlobals "SIGNS" = some (some (.str "abcdefghijklmnopqrstuvwxyz0123456789" A.t_SIGNS))),
  decide (PySem.W.nsIn K mainGlobals "NOTHING" = some (some (.str "nothing" A.t_NOTHING))),
  decide (PySem.W.nsIn K mainGlobals "YES" = some (some (.str "yes" A.t_YES))),
  decide (PySem.W.nsIn K mainGlobals "LONGEST" = some (some (.int (8) A.t_LONGEST))),
  decide (PySem.W.nsIn K mainGlobals "TOGETHER" = some (some (.ref A.u_TOGETHER))),
  tupSB K "TOGETHER" ["look", "put", "swap", "try", "let", "if"],
  decide (PySem.W.nsIn K mainGlobals "Statement" = some (some (.ref A.c_Statement))),
  decide (PySem.W.nsIn K mainGlobals "Look" = some (some (.ref A.c_Look))),
  decide (PySem.W.nsIn K mainGlobals "Put" = some (some (.ref A.c_Put))),
  decide (PySem.W.nsIn K mainGlobals "Swap" = some (some (.ref A.c_Swap))),
  decide (PySem.W.nsIn K mainGlobals "Try" = some (some (.ref A.c_Try))),
  decide (PySem.W.nsIn K mainGlobals "Let" = some (some (.ref A.c_Let))),
  decide (PySem.W.nsIn K mainGlobals "If" = some (some (.ref A.c_If))),
  decide (PySem.W.nsIn K mainGlobals "Loop" = some (some (.ref A.c_Loop))),
  decide (PySem.W.nsIn K mainGlobals "Leave" = some (some (.ref A.c_Leave))),
  decide (PySem.W.nsIn K mainGlobals "Return" = some (some (.ref A.c_Return))),
  decide (PySem.W.nsIn K mainGlobals "Joined" = some (some (.ref A.c_Joined))),
  decide (PySem.W.nsIn K cStatics "thirdparty.any" = some none),
  decide (PySem.W.nsIn K mainGlobals "is_name" = some (some (.ref A.a_is_name))),
  fnB K A.a_is_name "is_name",
  decide (PySem.W.nsIn K mainGlobals "is_operand" = some (some (.ref A.a_is_operand))),
  fnB K A.a_is_operand "is_operand",
  decide (PySem.W.nsIn K mainGlobals "check_name" = some (some (.ref A.a_check_name))),
  fnB K A.a_check_name "check_name",
  decide (PySem.W.nsIn K mainGlobals "check_operand" = some (some (.ref A.a_check_operand))),
  fnB K A.a_check_operand "check_operand",
  decide (PySem.W.findIn K (.ref A.c_Statement) "__init__" = some (some (.ref A.a_Statement___init__))),
  PySem.W.isFn K (.ref A.a_Statement___init__),
  fnDB K A.a_Statement___init__ "Statement.__init__" [true, true, true],
  decide (PySem.W.fnIn K A.a_Statement___init__ = true),
  decide (PySem.W.typeIn K (.ref A.a_Statement___init__) = some (.type "function")),
  decide (PySem.W.findIn K (.ref A.c_Statement) "amount" = some (some (.ref A.p_Statement_amount))),
  prB K A.p_Statement_amount,
  fnB K A.a_Statement_amount "Statement.amount",
  decide (PySem.W.findIn K (.ref A.c_Statement) "level" = some (some (.ref A.p_Statement_level))),
  prB K A.p_Statement_level,
  fnB K A.a_Statement_level "Statement.level",
  decide (PySem.W.findIn K (.ref A.c_Statement) "__eq__" = some (some (.ref A.a_Statement___eq__))),
  PySem.W.isFn K (.ref A.a_Statement___eq__),
  fnB K A.a_Statement___eq__ "Statement.__eq__",
  decide (PySem.W.findIn K (.ref A.c_Statement) "__str__" = some (some (.ref A.a_Statement___str__))),
  PySem.W.isFn K (.ref A.a_Statement___str__),
  fnB K A.a_Statement___str__ "Statement.__str__",
  decide (PySem.W.findIn K (.ref A.c_Statement) "__repr__" = some (some (.ref A.a_Statement___repr__))),
  PySem.W.isFn K (.ref A.a_Statement___repr__),
  fnB K A.a_Statement___repr__ "Statement.__repr__",
  decide (PySem.W.findIn K (.ref A.c_Look) "__init__" = some (some (.ref A.a_Look___init__))),
  PySem.W.isFn K (.ref A.a_Look___init__),
  sfnB P K A.a_Look___init__ A.c_Look "Look.__init__",
  noDfl K A.a_Look___init__,
  decide (PySem.W.findIn K (.ref A.c_Put) "__init__" = some (some (.ref A.a_Put___init__))),
  PySem.W.isFn K (.ref A.a_Put___init__),
  sfnB P K A.a_Put___init__ A.c_Put "Put.__init__",
  noDfl K A.a_Put___init__,
  decide (PySem.W.findIn K (.ref A.c_Swap) "__init__" = some (some (.ref A.a_Swap___init__))),
  PySem.W.isFn K (.ref A.a_Swap___init__),
  sfnB P K A.a_Swap___init__ A.c_Swap "Swap.__init__",
  noDfl K A.a_Swap___init__,
  decide (PySem.W.findIn K (.ref A.c_Try) "__init__" = some (some (.ref A.a_Try___init__))),
  PySem.W.isFn K (.ref A.a_Try___init__),
  sfnB P K A.a_Try___init__ A.c_Try "Try.__init__",
  noDfl K A.a_Try___init__,
  decide (PySem.W.findIn K (.ref A.c_Let) "__init__" = some (some (.ref A.a_Let___init__))),
  PySem.W.isFn K (.ref A.a_Let___init__),
  sfnB P K A.a_Let___init__ A.c_Let "Let.__init__",
  noDfl K A.a_Let___init__,
  decide (PySem.W.findIn K (.ref A.c_If) "__init__" = some (some (.ref A.a_If___init__))),
  PySem.W.isFn K (.ref A.a_If___init__),
  sfnB P K A.a_If___init__ A.c_If "If.__init__",
  sdflB K A.a_If___init__ [true],
  decide (PySem.W.findIn K (.ref A.c_Loop) "__init__" = some (some (.ref A.a_Loop___init__))),
  PySem.W.isFn K (.ref A.a_Loop___init__),
  sfnB P K A.a_Loop___init__ A.c_Loop "Loop.__init__",
  noDfl K A.a_Loop___init__,
  decide (PySem.W.findIn K (.ref A.c_Leave) "__init__" = some (some (.ref A.a_Leave___init__))),
  PySem.W.isFn K (.ref A.a_Leave___init__),
  sfnB P K A.a_Leave___init__ A.c_Leave "Leave.__init__",
  noDfl K A.a_Leave___init__,
  decide (PySem.W.findIn K (.ref A.c_Return) "__init__" = some (some (.ref A.a_Return___init__))),
  PySem.W.isFn K (.ref A.a_Return___init__),
  sfnB P K A.a_Return___init__ A.c_Return "Return.__init__",
  noDfl K A.a_Return___init__,
  decide (PySem.W.findIn K (.ref A.c_Joined) "__init__" = some (some (.ref A.a_Joined___init__))),
  PySem.W.isFn K (.ref A.a_Joined___init__),
  sfnB P K A.a_Joined___init__ A.c_Joined "Joined.__init__",
  noDfl K A.a_Joined___init__,
  decide (PySem.W.nsIn K mainGlobals "indented" = some (some (.ref A.a_indented))),
  fnB K A.a_indented "indented",
  decide (PySem.W.nsIn K mainGlobals "goes_together" = some (some (.ref A.a_goes_together))),
  fnB K A.a_goes_together "goes_together",
  decide (PySem.W.nsIn K mainGlobals "check_body" = some (some (.ref A.a_check_body))),
  fnB K A.a_check_body "check_body",
  decide (PySem.W.nsIn K mainGlobals "check_joined" = some (some (.ref A.a_check_joined))),
  fnB K A.a_check_joined "check_joined",
  decide (PySem.W.nsIn K mainGlobals "_law_number" = some (some (.ref A.a_law_number))),
  fnB K A.a_law_number "_law_number",
  decide (PySem.W.nsIn K mainGlobals "_law_source" = some (some (.ref A.a_law_source))),
  fnB K A.a_law_source "_law_source",
  decide (PySem.W.nsIn K mainGlobals "_law_take" = some (some (.ref A.a_law_take))),
  fnB K A.a_law_take "_law_take",
  decide (PySem.W.nsIn K mainGlobals "_law_word" = some (some (.ref A.a_law_word))),
  fnB K A.a_law_word "_law_word",
  decide (PySem.W.nsIn K mainGlobals "_law_words" = some (some (.ref A.a_law_words))),
  fnB K A.a_law_words "_law_words",
  decide (PySem.W.nsIn K mainGlobals "_law_head" = some (some (.ref A.a_law_head))),
  fnB K A.a_law_head "_law_head",
  decide (PySem.W.nsIn K mainGlobals "_law_bodies" = some (some (.ref A.a_law_bodies))),
  fnB K A.a_law_bodies "_law_bodies",
  decide (PySem.W.nsIn K mainGlobals "_law_lines" = some (some (.ref A.a_law_lines))),
  fnB K A.a_law_lines "_law_lines",
  decide (PySem.W.nsIn K mainGlobals "_law_made" = some (some (.ref A.a_law_made))),
  fnB K A.a_law_made "_law_made",
  decide (PySem.W.nsIn K mainGlobals "_law_holding" = some (some (.ref A.a_law_holding))),
  fnB K A.a_law_holding "_law_holding",
  decide (PySem.W.nsIn K mainGlobals "_law_size" = some (some (.ref A.a_law_size))),
  fnB K A.a_law_size "_law_size",
  decide (PySem.W.nsIn K mainGlobals "_law_paces" = some (some (.ref A.a_law_paces))),
  fnB K A.a_law_paces "_law_paces",
  decide (PySem.W.nsIn K mainGlobals "_law_line" = some (some (.ref A.a_law_line))),
  fnB K A.a_law_line "_law_line",
  decide (PySem.W.nsIn K mainGlobals "_law_operand" = some (some (.ref A.a_law_operand))),
  fnB K A.a_law_operand "_law_operand",
  decide (PySem.W.nsIn K mainGlobals "_law_statement" = some (some (.ref A.a_law_statement))),
  fnB K A.a_law_statement "_law_statement",
  decide (PySem.W.nsIn K mainGlobals "_law_body" = some (some (.ref A.a_law_body))),
  fnB K A.a_law_body "_law_body",
  decide (PySem.W.nsIn K mainGlobals "_law_fitting" = some (some (.ref A.a_law_fitting))),
  fnB K A.a_law_fitting "_law_fitting",
  decide (PySem.W.nsIn K mainGlobals "_law_sides" = some (some (.ref A.a_law_sides))),
  fnB K A.a_law_sides "_law_sides",
  decide (PySem.W.nsIn K mainGlobals "_law_holder" = some (some (.ref A.a_law_holder))),
  fnB K A.a_law_holder "_law_holder",
  decide (PySem.W.nsIn K mainGlobals "_law_height" = some (some (.ref A.a_law_height))),
  fnB K A.a_law_height "_law_height",
  decide (PySem.W.nsIn K mainGlobals "_law_bent" = some (some (.ref A.a_law_bent))),
  fnB K A.a_law_bent "_law_bent",
  decide (PySem.W.nsIn K mainGlobals "_law_kinds" = some (some (.ref A.a_law_kinds))),
  fnB K A.a_law_kinds "_law_kinds",
  decide (PySem.W.nsIn K mainGlobals "_law_is" = some (some (.ref A.a_law_is))),
  fnB K A.a_law_is "_law_is",
  decide (PySem.W.nsIn K mainGlobals "_law_right" = some (some (.ref A.a_law_right))),
  fnB K A.a_law_right "_law_right",
  decide (PySem.W.nsIn K mainGlobals "_law_by_hand" = some (some (.ref A.a_law_by_hand))),
  fnB K A.a_law_by_hand "_law_by_hand",
  decide (PySem.W.nsIn K mainGlobals "law" = some (some (.ref A.a_law))),
  fnB K A.a_law "law",
  decide (PySem.W.specialIn K (.builtin "object.__class__") "__get__" = some (some (.builtin "getset_descriptor.__get__"))),
  decide (PySem.W.takesIn K (.builtin "object.__class__") = some true),
  famChk K A.c_Statement famAttrs,
  (A.fam.all fun C => famChk K C famAttrs),
  tabChk K A.fam,
  (A.fam.all fun C => (PySem.W.mroIn K C (.ref A.c_Statement) == some true) && ((PySem.W.subIn K (.ref C) (.ref A.c_Statement) == some true) && (C != A.c_Statement))),
  (A.fam.all fun C => PySem.W.mroIn K C (.ref C) == some true),
  (A.fam.all fun C => PySem.W.ks_superIn K C C "__init__" == some (some (.ref A.a_Statement___init__))),
  (A.fam.all fun C => PySem.W.findIn K (.ref C) "amount" == some (some (.ref A.p_Statement_amount))),
  (A.fam.all fun C => PySem.W.findIn K (.ref C) "level" == some (some (.ref A.p_Statement_level))),
  (A.fam.all fun C => PySem.W.findIn K (.ref C) "__eq__" == some (some (.ref A.a_Statement___eq__))),
  (A.fam.all fun C => PySem.W.findIn K (.ref C) "__str__" == some (some (.ref A.a_Statement___str__))),
  (A.fam.all fun C => PySem.W.findIn K (.ref C) "__repr__" == some (some (.ref A.a_Statement___repr__))),
  (A.fam.all fun C => PySem.W.readsIn K C (.type "type") && (PySem.W.specialIn K (.ref C) "__getattribute__" == some (some (.builtin "type.__getattribute__")))),
  conB K A.c_Look "WORD" "look",
  cvalB K A.c_Look "WORD" "look",
  conB K A.c_Put "WORD" "put",
  cvalB K A.c_Put "WORD" "put",
  conB K A.c_Swap "WORD" "swap",
  cvalB K A.c_Swap "WORD" "swap",
  conB K A.c_Try "WORD" "try",
  cvalB K A.c_Try "WORD" "try",
  conB K A.c_Let "WORD" "let",
  cvalB K A.c_Let "WORD" "let",
  conB K A.c_Leave "WORD" "leave",
  cvalB K A.c_Leave "WORD" "leave",
  conB K A.c_Return "WORD" "return",
  cvalB K A.c_Return "WORD" "return",
  conB K A.c_If "WORD" "if",
  cvalB K A.c_If "WORD" "if",
  conB K A.c_Loop "WORD" "loop",
  cvalB K A.c_Loop "WORD" "loop",
  conB K A.c_Joined "WORD" "joined",
  cvalB K A.c_Joined "WORD" "joined",
  PySem.W.makesIn K A.c_Look,
  PySem.W.keepIn K (.ref A.c_Look),
  PySem.W.makesIn K A.c_Put,
  PySem.W.keepIn K (.ref A.c_Put),
  PySem.W.makesIn K A.c_Swap,
  PySem.W.keepIn K (.ref A.c_Swap),
  PySem.W.makesIn K A.c_Try,
  PySem.W.keepIn K (.ref A.c_Try),
  PySem.W.makesIn K A.c_Let,
  PySem.W.keepIn K (.ref A.c_Let),
  PySem.W.makesIn K A.c_Leave,
  PySem.W.keepIn K (.ref A.c_Leave),
  PySem.W.makesIn K A.c_Return,
  PySem.W.keepIn K (.ref A.c_Return),
  PySem.W.makesIn K A.c_If,
  PySem.W.keepIn K (.ref A.c_If),
  PySem.W.makesIn K A.c_Loop,
  PySem.W.keepIn K (.ref A.c_Loop),
  PySem.W.makesIn K A.c_Joined,
  PySem.W.keepIn K (.ref A.c_Joined)]
def fnsA (K : PySem.W.Frag) (A : Ads) : List FnI := [fnI K A.a_is_name, fnI K A.a_is_operand, fnI K A.a_check_name, fnI K A.a_check_operand, fnI K A.a_Statement___init__, fnI K A.a_Statement_amount, fnI K A.a_Statement_level, fnI K A.a_Statement___eq__, fnI K A.a_Statement___str__, fnI K A.a_Statement___repr__, fnI K A.a_Look___init__, fnI K A.a_Put___init__, fnI K A.a_Swap___init__, fnI K A.a_Try___init__, fnI K A.a_Let___init__, fnI K A.a_If___init__, fnI K A.a_Loop___init__, fnI K A.a_Leave___init__, fnI K A.a_Return___init__, fnI K A.a_Joined___init__, fnI K A.a_indented, fnI K A.a_goes_together, fnI K A.a_check_body, fnI K A.a_check_joined, fnI K A.a_law_number, fnI K A.a_law_source, fnI K A.a_law_take, fnI K A.a_law_word, fnI K A.a_law_words, fnI K A.a_law_head, fnI K A.a_law_bodies, fnI K A.a_law_lines, fnI K A.a_law_made, fnI K A.a_law_holding, fnI K A.a_law_size, fnI K A.a_law_paces, fnI K A.a_law_line, fnI K A.a_law_operand, fnI K A.a_law_statement, fnI K A.a_law_body, fnI K A.a_law_fitting, fnI K A.a_law_sides, fnI K A.a_law_holder, fnI K A.a_law_height, fnI K A.a_law_bent, fnI K A.a_law_kinds, fnI K A.a_law_is, fnI K A.a_law_right, fnI K A.a_law_by_hand, fnI K A.a_law]
def fvals : List FnI := [fnV "is_name" "is_name" st_is_name [], fnV "is_operand" "is_operand" st_is_operand [], fnV "check_name" "check_name" st_check_name [], fnV "check_operand" "check_operand" st_check_operand [], fnV "__init__" "Statement.__init__" st_Statement___init__ [], fnV "amount" "Statement.amount" st_Statement_amount [], fnV "level" "Statement.level" st_Statement_level [], fnV "__eq__" "Statement.__eq__" st_Statement___eq__ [], fnV "__str__" "Statement.__str__" st_Statement___str__ [], fnV "__repr__" "Statement.__repr__" st_Statement___repr__ [], fnV "__init__" "Look.__init__" st_Look___init__ ["__class__"], fnV "__init__" "Put.__init__" st_Put___init__ ["__class__"], fnV "__init__" "Swap.__init__" st_Swap___init__ ["__class__"], fnV "__init__" "Try.__init__" st_Try___init__ ["__class__"], fnV "__init__" "Let.__init__" st_Let___init__ ["__class__"], fnV "__init__" "If.__init__" st_If___init__ ["__class__"], fnV "__init__" "Loop.__init__" st_Loop___init__ ["__class__"], fnV "__init__" "Leave.__init__" st_Leave___init__ ["__class__"], fnV "__init__" "Return.__init__" st_Return___init__ ["__class__"], fnV "__init__" "Joined.__init__" st_Joined___init__ ["__class__"], fnV "indented" "indented" st_indented [], fnV "goes_together" "goes_together" st_goes_together [], fnV "check_body" "check_body" st_check_body [], fnV "check_joined" "check_joined" st_check_joined [], fnV "_law_number" "_law_number" st_law_number [], fnV "_law_source" "_law_source" st_law_source [], fnV "_law_take" "_law_take" st_law_take [], fnV "_law_word" "_law_word" st_law_word [], fnV "_law_words" "_law_words" st_law_words [], fnV "_law_head" "_law_head" st_law_head [], fnV "_law_bodies" "_law_bodies" st_law_bodies [], fnV "_law_lines" "_law_lines" st_law_lines [], fnV "_law_made" "_law_made" st_law_made [], fnV "_law_holding" "_law_holding" st_law_holding [], fnV "_law_size" "_law_size" st_law_size [], fnV "_law_paces" "_law_paces" st_law_paces [], fnV "_law_line" "_law_line" st_law_line [], fnV "_law_operand" "_law_operand" st_law_operand [], fnV "_law_statement" "_law_statement" st_law_statement [], fnV "_law_body" "_law_body" st_law_body [], fnV "_law_fitting" "_law_fitting" st_law_fitting [], fnV "_law_sides" "_law_sides" st_law_sides [], fnV "_law_holder" "_law_holder" st_law_holder [], fnV "_law_height" "_law_height" st_law_height [], fnV "_law_bent" "_law_bent" st_law_bent [], fnV "_law_kinds" "_law_kinds" st_law_kinds [], fnV "_law_is" "_law_is" st_law_is [], fnV "_law_right" "_law_right" st_law_right [], fnV "_law_by_hand" "_law_by_hand" st_law_by_hand [], fnV "law" "law" st_law []]
theorem txt_of {K : PySem.W.Frag} {h : Heap} {mg : Str → Option Value} (X : K.In h) (G : h.Ns mainGlobals mg) (c : (chkA K (adsOf K)).all id = true) (e : fnsA K (adsOf K) = fvals) :
    Txt K mg (adsOf K) ∧ ∀ (s : Shared) (v : Value), BindsTo s (adsOf K).d_law ⟨[v], []⟩ [("_law_numbers", v)] := by
  have z_abs : PySem.W.nsIn K mainGlobals "abs" = some none := pickD c 0
  have z_all : PySem.W.nsIn K mainGlobals "all" = some none := pickD c 1
  have z_divmod : PySem.W.nsIn K mainGlobals "divmod" = some none := pickD c 2
  have z_enumerate : PySem.W.nsIn K mainGlobals "enumerate" = some none := pickD c 3
  have z_int : PySem.W.nsIn K mainGlobals "int" = some none := pickD c 4
  have z_isinstance : PySem.W.nsIn K mainGlobals "isinstance" = some none := pickD c 5
  have z_len : PySem.W.nsIn K mainGlobals "len" = some none := pickD c 6
  have z_list : PySem.W.nsIn K mainGlobals "list" = some none := pickD c 7
  have z_max : PySem.W.nsIn K mainGlobals "max" = some none := pickD c 8
  have z_min : PySem.W.nsIn K mainGlobals "min" = some none := pickD c 9
  have z_property : PySem.W.nsIn K mainGlobals "property" = some none := pickD c 10
  have z_range : PySem.W.nsIn K mainGlobals "range" = some none := pickD c 11
  have z_repr : PySem.W.nsIn K mainGlobals "repr" = some none := pickD c 12
  have z_str : PySem.W.nsIn K mainGlobals "str" = some none := pickD c 13
  have z_sum : PySem.W.nsIn K mainGlobals "sum" = some none := pickD c 14
  have z_super : PySem.W.nsIn K mainGlobals "super" = some none := pickD c 15
  have z_tuple : PySem.W.nsIn K mainGlobals "tuple" = some none := pickD c 16
  have q_MAX_STATEMENTS : PySem.W.nsIn K mainGlobals "MAX_STATEMENTS" = some (some (.int (40) (adsOf K).t_MAX_STATEMENTS)) := pickD c 17
  have q_MAX_LEVEL : PySem.W.nsIn K mainGlobals "MAX_LEVEL" = some (some (.int (5) (adsOf K).t_MAX_LEVEL)) := pickD c 18
  have q_LETTERS : PySem.W.nsIn K mainGlobals "LETTERS" = some (some (.str "abcdefghijklmnopqrstuvwxyz" (adsOf K).t_LETTERS)) := pickD c 19
  have q_SIGNS : PySem.W.nsIn K mainGlobals "SIGNS" = some (some (.str "abcdefghijklmnopqrstuvwxyz0123456789" (adsOf K).t_SIGNS)) := pickD c 20
  have q_NOTHING : PySem.W.nsIn K mainGlobals "NOTHING" = some (some (.str "nothing" (adsOf K).t_NOTHING)) := pickD c 21
  have q_YES : PySem.W.nsIn K mainGlobals "YES" = some (some (.str "yes" (adsOf K).t_YES)) := pickD c 22
  have q_LONGEST : PySem.W.nsIn K mainGlobals "LONGEST" = some (some (.int (8) (adsOf K).t_LONGEST)) := pickD c 23
  have q_TOGETHER : PySem.W.nsIn K mainGlobals "TOGETHER" = some (some (.ref (adsOf K).u_TOGETHER)) := pickD c 24
  have r_TOGETHER : tupSB K "TOGETHER" ["look", "put", "swap", "try", "let", "if"] = true := pick c 25
  have a_Statement : PySem.W.nsIn K mainGlobals "Statement" = some (some (.ref (adsOf K).c_Statement)) := pickD c 26
  have a_Look : PySem.W.nsIn K mainGlobals "Look" = some (some (.ref (adsOf K).c_Look)) := pickD c 27
  have a_Put : PySem.W.nsIn K mainGlobals "Put" = some (some (.ref (adsOf K).c_Put)) := pickD c 28
  have a_Swap : PySem.W.nsIn K mainGlobals "Swap" = some (some (.ref (adsOf K).c_Swap)) := pickD c 29
  have a_Try : PySem.W.nsIn K mainGlobals "Try" = some (some (.ref (adsOf K).c_Try)) := pickD c 30
  have a_Let : PySem.W.nsIn K mainGlobals "Let" = some (some (.ref (adsOf K).c_Let)) := pickD c 31
  have a_If : PySem.W.nsIn K mainGlobals "If" = some (some (.ref (adsOf K).c_If)) := pickD c 32
  have a_Loop : PySem.W.nsIn K mainGlobals "Loop" = some (some (.ref (adsOf K).c_Loop)) := pickD c 33
  have a_Leave : PySem.W.nsIn K mainGlobals "Leave" = some (some (.ref (adsOf K).c_Leave)) := pickD c 34
  have a_Return : PySem.W.nsIn K mainGlobals "Return" = some (some (.ref (adsOf K).c_Return)) := pickD c 35
  have a_Joined : PySem.W.nsIn K mainGlobals "Joined" = some (some (.ref (adsOf K).c_Joined)) := pickD c 36
  have zopq : PySem.W.nsIn K cStatics "thirdparty.any" = some none := pickD c 37
  have ztop : (P.main.scope.names.lookup ("super" : Str)).isSome = false := by kernel_rfl
  have a0 : PySem.W.nsIn K mainGlobals "is_name" = some (some (.ref (adsOf K).a_is_name)) := pickD c 38
  have s0 : fnB K (adsOf K).a_is_name "is_name" = true := pick c 39
  have F0 : Fun K "is_name" "is_name" st_is_name (adsOf K).a_is_name (adsOf K).d_is_name := fun_of (pickF e 0) s0
  have a1 : PySem.W.nsIn K mainGlobals "is_operand" = some (some (.ref (adsOf K).a_is_operand)) := pickD c 40
  have s1 : fnB K (adsOf K).a_is_operand "is_operand" = true := pick c 41
  have F1 : Fun K "is_operand" "is_operand" st_is_operand (adsOf K).a_is_operand (adsOf K).d_is_operand := fun_of (pickF e 1) s1
  have a2 : PySem.W.nsIn K mainGlobals "check_name" = some (some (.ref (adsOf K).a_check_name)) := pickD c 42
  have s2 : fnB K (adsOf K).a_check_name "check_name" = true := pick c 43
  have F2 : Fun K "check_name" "check_name" st_check_name (adsOf K).a_check_name (adsOf K).d_check_name := fun_of (pickF e 2) s2
  have a3 : PySem.W.nsIn K mainGlobals "check_operand" = some (some (.ref (adsOf K).a_check_operand)) := pickD c 44
  have s3 : fnB K (adsOf K).a_check_operand "check_operand" = true := pick c 45
  have F3 : Fun K "check_operand" "check_operand" st_check_operand (adsOf K).a_check_operand (adsOf K).d_check_operand := fun_of (pickF e 3) s3
  have a4 : PySem.W.findIn K (.ref (adsOf K).c_Statement) "__init__" = some (some (.ref (adsOf K).a_Statement___init__)) := pickD c 46
  have i4 : PySem.W.isFn K (.ref (adsOf K).a_Statement___init__) = true := pick c 47
  have s4 : fnDB K (adsOf K).a_Statement___init__ "Statement.__init__" [true, true, true] = true := pick c 48
  obtain ⟨F4, ⟨_, _, L4, O4⟩, E4⟩ := funV_of (pickF e 4) s4
  have fi4 : PySem.W.fnIn K (adsOf K).a_Statement___init__ = true := pickD c 49
  have ft4 : PySem.W.typeIn K (.ref (adsOf K).a_Statement___init__) = some (.type "function") := pickD c 50
  have a5 : PySem.W.findIn K (.ref (adsOf K).c_Statement) "amount" = some (some (.ref (adsOf K).p_Statement_amount)) := pickD c 51
  have pr5 : prB K (adsOf K).p_Statement_amount = true := pick c 52
  have s5 : fnB K (adsOf K).a_Statement_amount "Statement.amount" = true := pick c 53
  have F5 : Fun K "amount" "Statement.amount" st_Statement_amount (adsOf K).a_Statement_amount (adsOf K).d_Statement_amount := fun_of (pickF e 5) s5
  have a6 : PySem.W.findIn K (.ref (adsOf K).c_Statement) "level" = some (some (.ref (adsOf K).p_Statement_level)) := pickD c 54
  have pr6 : prB K (adsOf K).p_Statement_level = true := pick c 55
  have s6 : fnB K (adsOf K).a_Statement_level "Statement.level" = true := pick c 56
  have F6 : Fun K "level" "Statement.level" st_Statement_level (adsOf K).a_Statement_level (adsOf K).d_Statement_level := fun_of (pickF e 6) s6
  have a7 : PySem.W.findIn K (.ref (adsOf K).c_Statement) "__eq__" = some (some (.ref (adsOf K).a_Statement___eq__)) := pickD c 57
  have i7 : PySem.W.isFn K (.ref (adsOf K).a_Statement___eq__) = true := pick c 58
  have s7 : fnB K (adsOf K).a_Statement___eq__ "Statement.__eq__" = true := pick c 59
  have F7 : Fun K "__eq__" "Statement.__eq__" st_Statement___eq__ (adsOf K).a_Statement___eq__ (adsOf K).d_Statement___eq__ := fun_of (pickF e 7) s7
  have a8 : PySem.W.findIn K (.ref (adsOf K).c_Statement) "__str__" = some (some (.ref (adsOf K).a_Statement___str__)) := pickD c 60
  have i8 : PySem.W.isFn K (.ref (adsOf K).a_Statement___str__) = true := pick c 61
  have s8 : fnB K (adsOf K).a_Statement___str__ "Statement.__str__" = true := pick c 62
  have F8 : Fun K "__str__" "Statement.__str__" st_Statement___str__ (adsOf K).a_Statement___str__ (adsOf K).d_Statement___str__ := fun_of (pickF e 8) s8
  have a9 : PySem.W.findIn K (.ref (adsOf K).c_Statement) "__repr__" = some (some (.ref (adsOf K).a_Statement___repr__)) := pickD c 63
  have i9 : PySem.W.isFn K (.ref (adsOf K).a_Statement___repr__) = true := pick c 64
  have s9 : fnB K (adsOf K).a_Statement___repr__ "Statement.__repr__" = true := pick c 65
  have F9 : Fun K "__repr__" "Statement.__repr__" st_Statement___repr__ (adsOf K).a_Statement___repr__ (adsOf K).d_Statement___repr__ := fun_of (pickF e 9) s9
  have a10 : PySem.W.findIn K (.ref (adsOf K).c_Look) "__init__" = some (some (.ref (adsOf K).a_Look___init__)) := pickD c 66
  have i10 : PySem.W.isFn K (.ref (adsOf K).a_Look___init__) = true := pick c 67
  have s10 : sfnB P K (adsOf K).a_Look___init__ (adsOf K).c_Look "Look.__init__" = true := pick c 68
  have F10 : SFun P K "__init__" "Look.__init__" st_Look___init__ (adsOf K).a_Look___init__ (adsOf K).d_Look___init__ (adsOf K).cc_Look___init__ (adsOf K).c_Look := sfun_of (pickF e 10) s10 ztop zopq
  have nd10 : noDfl K (adsOf K).a_Look___init__ = true := pick c 69
  have N10 := sfunN_of F10 nd10
  have a11 : PySem.W.findIn K (.ref (adsOf K).c_Put) "__init__" = some (some (.ref (adsOf K).a_Put___init__)) := pickD c 70
  have i11 : PySem.W.isFn K (.ref (adsOf K).a_Put___init__) = true := pick c 71
  have s11 : sfnB P K (adsOf K).a_Put___init__ (adsOf K).c_Put "Put.__init__" = true := pick c 72
  have F11 : SFun P K "__init__" "Put.__init__" st_Put___init__ (adsOf K).a_Put___init__ (adsOf K).d_Put___init__ (adsOf K).cc_Put___init__ (adsOf K).c_Put := sfun_of (pickF e 11) s11 ztop zopq
  have nd11 : noDfl K (adsOf K).a_Put___init__ = true := pick c 73
  have N11 := sfunN_of F11 nd11
  have a12 : PySem.W.findIn K (.ref (adsOf K).c_Swap) "__init__" = some (some (.ref (adsOf K).a_Swap___init__)) := pickD c 74
  have i12 : PySem.W.isFn K (.ref (adsOf K).a_Swap___init__) = true := pick c 75
  have s12 : sfnB P K (adsOf K).a_Swap___init__ (adsOf K).c_Swap "Swap.__init__" = true := pick c 76
  have F12 : SFun P K "__init__" "Swap.__init__" st_Swap___init__ (adsOf K).a_Swap___init__ (adsOf K).d_Swap___init__ (adsOf K).cc_Swap___init__ (adsOf K).c_Swap := sfun_of (pickF e 12) s12 ztop zopq
  have nd12 : noDfl K (adsOf K).a_Swap___init__ = true := pick c 77
  have N12 := sfunN_of F12 nd12
  have a13 : PySem.W.findIn K (.ref (adsOf K).c_Try) "__init__" = some (some (.ref (adsOf K).a_Try___init__)) := pickD c 78
  have i13 : PySem.W.isFn K (.ref (adsOf K).a_Try___init__) = true := pick c 79
  have s13 : sfnB P K (adsOf K).a_Try___init__ (adsOf K).c_Try "Try.__init__" = true := pick c 80
  have F13 : SFun P K "__init__" "Try.__init__" st_Try___init__ (adsOf K).a_Try___init__ (adsOf K).d_Try___init__ (adsOf K).cc_Try___init__ (adsOf K).c_Try := sfun_of (pickF e 13) s13 ztop zopq
  have nd13 : noDfl K (adsOf K).a_Try___init__ = true := pick c 81
  have N13 := sfunN_of F13 nd13
  have a14 : PySem.W.findIn K (.ref (adsOf K).c_Let) "__init__" = some (some (.ref (adsOf K).a_Let___init__)) := pickD c 82
  have i14 : PySem.W.isFn K (.ref (adsOf K).a_Let___init__) = true := pick c 83
  have s14 : sfnB P K (adsOf K).a_Let___init__ (adsOf K).c_Let "Let.__init__" = true := pick c 84
  have F14 : SFun P K "__init__" "Let.__init__" st_Let___init__ (adsOf K).a_Let___init__ (adsOf K).d_Let___init__ (adsOf K).cc_Let___init__ (adsOf K).c_Let := sfun_of (pickF e 14) s14 ztop zopq
  have nd14 : noDfl K (adsOf K).a_Let___init__ = true := pick c 85
  have N14 := sfunN_of F14 nd14
  have a15 : PySem.W.findIn K (.ref (adsOf K).c_If) "__init__" = some (some (.ref (adsOf K).a_If___init__)) := pickD c 86
  have i15 : PySem.W.isFn K (.ref (adsOf K).a_If___init__) = true := pick c 87
  have s15 : sfnB P K (adsOf K).a_If___init__ (adsOf K).c_If "If.__init__" = true := pick c 88
  have F15 : SFun P K "__init__" "If.__init__" st_If___init__ (adsOf K).a_If___init__ (adsOf K).d_If___init__ (adsOf K).cc_If___init__ (adsOf K).c_If := sfun_of (pickF e 15) s15 ztop zopq
  have sd15 : sdflB K (adsOf K).a_If___init__ [true] = true := pick c 89
  obtain ⟨G15, ⟨_, _, L15, O15⟩, E15⟩ := sdfl_of F15 sd15
  have a16 : PySem.W.findIn K (.ref (adsOf K).c_Loop) "__init__" = some (some (.ref (adsOf K).a_Loop___init__)) := pickD c 90
  have i16 : PySem.W.isFn K (.ref (adsOf K).a_Loop___init__) = true := pick c 91
  have s16 : sfnB P K (adsOf K).a_Loop___init__ (adsOf K).c_Loop "Loop.__init__" = true := pick c 92
  have F16 : SFun P K "__init__" "Loop.__init__" st_Loop___init__ (adsOf K).a_Loop___init__ (adsOf K).d_Loop___init__ (adsOf K).cc_Loop___init__ (adsOf K).c_Loop := sfun_of (pickF e 16) s16 ztop zopq
  have nd16 : noDfl K (adsOf K).a_Loop___init__ = true := pick c 93
  have N16 := sfunN_of F16 nd16
  have a17 : PySem.W.findIn K (.ref (adsOf K).c_Leave) "__init__" = some (some (.ref (adsOf K).a_Leave___init__)) := pickD c 94
  have i17 : PySem.W.isFn K (.ref (adsOf K).a_Leave___init__) = true := pick c 95
  have s17 : sfnB P K (adsOf K).a_Leave___init__ (adsOf K).c_Leave "Leave.__init__" = true := pick c 96
  have F17 : SFun P K "__init__" "Leave.__init__" st_Leave___init__ (adsOf K).a_Leave___init__ (adsOf K).d_Leave___init__ (adsOf K).cc_Leave___init__ (adsOf K).c_Leave := sfun_of (pickF e 17) s17 ztop zopq
  have nd17 : noDfl K (adsOf K).a_Leave___init__ = true := pick c 97
  have N17 := sfunN_of F17 nd17
  have a18 : PySem.W.findIn K (.ref (adsOf K).c_Return) "__init__" = some (some (.ref (adsOf K).a_Return___init__)) := pickD c 98
  have i18 : PySem.W.isFn K (.ref (adsOf K).a_Return___init__) = true := pick c 99
  have s18 : sfnB P K (adsOf K).a_Return___init__ (adsOf K).c_Return "Return.__init__" = true := pick c 100
  have F18 : SFun P K "__init__" "Return.__init__" st_Return___init__ (adsOf K).a_Return___init__ (adsOf K).d_Return___init__ (adsOf K).cc_Return___init__ (adsOf K).c_Return := sfun_of (pickF e 18) s18 ztop zopq
  have nd18 : noDfl K (adsOf K).a_Return___init__ = true := pick c 101
  have N18 := sfunN_of F18 nd18
  have a19 : PySem.W.findIn K (.ref (adsOf K).c_Joined) "__init__" = some (some (.ref (adsOf K).a_Joined___init__)) := pickD c 102
  have i19 : PySem.W.isFn K (.ref (adsOf K).a_Joined___init__) = true := pick c 103
  have s19 : sfnB P K (adsOf K).a_Joined___init__ (adsOf K).c_Joined "Joined.__init__" = true := pick c 104
  have F19 : SFun P K "__init__" "Joined.__init__" st_Joined___init__ (adsOf K).a_Joined___init__ (adsOf K).d_Joined___init__ (adsOf K).cc_Joined___init__ (adsOf K).c_Joined := sfun_of (pickF e 19) s19 ztop zopq
  have nd19 : noDfl K (adsOf K).a_Joined___init__ = true := pick c 105
  have N19 := sfunN_of F19 nd19
  have a20 : PySem.W.nsIn K mainGlobals "indented" = some (some (.ref (adsOf K).a_indented)) := pickD c 106
  have s20 : fnB K (adsOf K).a_indented "indented" = true := pick c 107
  have F20 : Fun K "indented" "indented" st_indented (adsOf K).a_indented (adsOf K).d_indented := fun_of (pickF e 20) s20
  have a21 : PySem.W.nsIn K mainGlobals "goes_together" = some (some (.ref (adsOf K).a_goes_together)) := pickD c 108
  have s21 : fnB K (adsOf K).a_goes_together "goes_together" = true := pick c 109
  have F21 : Fun K "goes_together" "goes_together" st_goes_together (adsOf K).a_goes_together (adsOf K).d_goes_together := fun_of (pickF e 21) s21
  have a22 : PySem.W.nsIn K mainGlobals "check_body" = some (some (.ref (adsOf K).a_check_body)) := pickD c 110
  have s22 : fnB K (adsOf K).a_check_body "check_body" = true := pick c 111
  have F22 : Fun K "check_body" "check_body" st_check_body (adsOf K).a_check_body (adsOf K).d_check_body := fun_of (pickF e 22) s22
  have a23 : PySem.W.nsIn K mainGlobals "check_joined" = some (some (.ref (adsOf K).a_check_joined)) := pickD c 112
  have s23 : fnB K (adsOf K).a_check_joined "check_joined" = true := pick c 113
  have F23 : Fun K "check_joined" "check_joined" st_check_joined (adsOf K).a_check_joined (adsOf K).d_check_joined := fun_of (pickF e 23) s23
  have a24 : PySem.W.nsIn K mainGlobals "_law_number" = some (some (.ref (adsOf K).a_law_number)) := pickD c 114
  have s24 : fnB K (adsOf K).a_law_number "_law_number" = true := pick c 115
  have F24 : Fun K "_law_number" "_law_number" st_law_number (adsOf K).a_law_number (adsOf K).d_law_number := fun_of (pickF e 24) s24
  have a25 : PySem.W.nsIn K mainGlobals "_law_source" = some (some (.ref (adsOf K).a_law_source)) := pickD c 116
  have s25 : fnB K (adsOf K).a_law_source "_law_source" = true := pick c 117
  have F25 : Fun K "_law_source" "_law_source" st_law_source (adsOf K).a_law_source (adsOf K).d_law_source := fun_of (pickF e 25) s25
  have a26 : PySem.W.nsIn K mainGlobals "_law_take" = some (some (.ref (adsOf K).a_law_take)) := pickD c 118
  have s26 : fnB K (adsOf K).a_law_take "_law_take" = true := pick c 119
  have F26 : Fun K "_law_take" "_law_take" st_law_take (adsOf K).a_law_take (adsOf K).d_law_take := fun_of (pickF e 26) s26
  have a27 : PySem.W.nsIn K mainGlobals "_law_word" = some (some (.ref (adsOf K).a_law_word)) := pickD c 120
  have s27 : fnB K (adsOf K).a_law_word "_law_word" = true := pick c 121
  have F27 : Fun K "_law_word" "_law_word" st_law_word (adsOf K).a_law_word (adsOf K).d_law_word := fun_of (pickF e 27) s27
  have a28 : PySem.W.nsIn K mainGlobals "_law_words" = some (some (.ref (adsOf K).a_law_words)) := pickD c 122
  have s28 : fnB K (adsOf K).a_law_words "_law_words" = true := pick c 123
  have F28 : Fun K "_law_words" "_law_words" st_law_words (adsOf K).a_law_words (adsOf K).d_law_words := fun_of (pickF e 28) s28
  have a29 : PySem.W.nsIn K mainGlobals "_law_head" = some (some (.ref (adsOf K).a_law_head)) := pickD c 124
  have s29 : fnB K (adsOf K).a_law_head "_law_head" = true := pick c 125
  have F29 : Fun K "_law_head" "_law_head" st_law_head (adsOf K).a_law_head (adsOf K).d_law_head := fun_of (pickF e 29) s29
  have a30 : PySem.W.nsIn K mainGlobals "_law_bodies" = some (some (.ref (adsOf K).a_law_bodies)) := pickD c 126
  have s30 : fnB K (adsOf K).a_law_bodies "_law_bodies" = true := pick c 127
  have F30 : Fun K "_law_bodies" "_law_bodies" st_law_bodies (adsOf K).a_law_bodies (adsOf K).d_law_bodies := fun_of (pickF e 30) s30
  have a31 : PySem.W.nsIn K mainGlobals "_law_lines" = some (some (.ref (adsOf K).a_law_lines)) := pickD c 128
  have s31 : fnB K (adsOf K).a_law_lines "_law_lines" = true := pick c 129
  have F31 : Fun K "_law_lines" "_law_lines" st_law_lines (adsOf K).a_law_lines (adsOf K).d_law_lines := fun_of (pickF e 31) s31
  have a32 : PySem.W.nsIn K mainGlobals "_law_made" = some (some (.ref (adsOf K).a_law_made)) := pickD c 130
  have s32 : fnB K (adsOf K).a_law_made "_law_made" = true := pick c 131
  have F32 : Fun K "_law_made" "_law_made" st_law_made (adsOf K).a_law_made (adsOf K).d_law_made := fun_of (pickF e 32) s32
  have a33 : PySem.W.nsIn K mainGlobals "_law_holding" = some (some (.ref (adsOf K).a_law_holding)) := pickD c 132
  have s33 : fnB K (adsOf K).a_law_holding "_law_holding" = true := pick c 133
  have F33 : Fun K "_law_holding" "_law_holding" st_law_holding (adsOf K).a_law_holding (adsOf K).d_law_holding := fun_of (pickF e 33) s33
  have a34 : PySem.W.nsIn K mainGlobals "_law_size" = some (some (.ref (adsOf K).a_law_size)) := pickD c 134
  have s34 : fnB K (adsOf K).a_law_size "_law_size" = true := pick c 135
  have F34 : Fun K "_law_size" "_law_size" st_law_size (adsOf K).a_law_size (adsOf K).d_law_size := fun_of (pickF e 34) s34
  have a35 : PySem.W.nsIn K mainGlobals "_law_paces" = some (some (.ref (adsOf K).a_law_paces)) := pickD c 136
  have s35 : fnB K (adsOf K).a_law_paces "_law_paces" = true := pick c 137
  have F35 : Fun K "_law_paces" "_law_paces" st_law_paces (adsOf K).a_law_paces (adsOf K).d_law_paces := fun_of (pickF e 35) s35
  have a36 : PySem.W.nsIn K mainGlobals "_law_line" = some (some (.ref (adsOf K).a_law_line)) := pickD c 138
  have s36 : fnB K (adsOf K).a_law_line "_law_line" = true := pick c 139
  have F36 : Fun K "_law_line" "_law_line" st_law_line (adsOf K).a_law_line (adsOf K).d_law_line := fun_of (pickF e 36) s36
  have a37 : PySem.W.nsIn K mainGlobals "_law_operand" = some (some (.ref (adsOf K).a_law_operand)) := pickD c 140
  have s37 : fnB K (adsOf K).a_law_operand "_law_operand" = true := pick c 141
  have F37 : Fun K "_law_operand" "_law_operand" st_law_operand (adsOf K).a_law_operand (adsOf K).d_law_operand := fun_of (pickF e 37) s37
  have a38 : PySem.W.nsIn K mainGlobals "_law_statement" = some (some (.ref (adsOf K).a_law_statement)) := pickD c 142
  have s38 : fnB K (adsOf K).a_law_statement "_law_statement" = true := pick c 143
  have F38 : Fun K "_law_statement" "_law_statement" st_law_statement (adsOf K).a_law_statement (adsOf K).d_law_statement := fun_of (pickF e 38) s38
  have a39 : PySem.W.nsIn K mainGlobals "_law_body" = some (some (.ref (adsOf K).a_law_body)) := pickD c 144
  have s39 : fnB K (adsOf K).a_law_body "_law_body" = true := pick c 145
  have F39 : Fun K "_law_body" "_law_body" st_law_body (adsOf K).a_law_body (adsOf K).d_law_body := fun_of (pickF e 39) s39
  have a40 : PySem.W.nsIn K mainGlobals "_law_fitting" = some (some (.ref (adsOf K).a_law_fitting)) := pickD c 146
  have s40 : fnB K (adsOf K).a_law_fitting "_law_fitting" = true := pick c 147
  have F40 : Fun K "_law_fitting" "_law_fitting" st_law_fitting (adsOf K).a_law_fitting (adsOf K).d_law_fitting := fun_of (pickF e 40) s40
  have a41 : PySem.W.nsIn K mainGlobals "_law_sides" = some (some (.ref (adsOf K).a_law_sides)) := pickD c 148
  have s41 : fnB K (adsOf K).a_law_sides "_law_sides" = true := pick c 149
  have F41 : Fun K "_law_sides" "_law_sides" st_law_sides (adsOf K).a_law_sides (adsOf K).d_law_sides := fun_of (pickF e 41) s41
  have a42 : PySem.W.nsIn K mainGlobals "_law_holder" = some (some (.ref (adsOf K).a_law_holder)) := pickD c 150
  have s42 : fnB K (adsOf K).a_law_holder "_law_holder" = true := pick c 151
  have F42 : Fun K "_law_holder" "_law_holder" st_law_holder (adsOf K).a_law_holder (adsOf K).d_law_holder := fun_of (pickF e 42) s42
  have a43 : PySem.W.nsIn K mainGlobals "_law_height" = some (some (.ref (adsOf K).a_law_height)) := pickD c 152
  have s43 : fnB K (adsOf K).a_law_height "_law_height" = true := pick c 153
  have F43 : Fun K "_law_height" "_law_height" st_law_height (adsOf K).a_law_height (adsOf K).d_law_height := fun_of (pickF e 43) s43
  have a44 : PySem.W.nsIn K mainGlobals "_law_bent" = some (some (.ref (adsOf K).a_law_bent)) := pickD c 154
  have s44 : fnB K (adsOf K).a_law_bent "_law_bent" = true := pick c 155
  have F44 : Fun K "_law_bent" "_law_bent" st_law_bent (adsOf K).a_law_bent (adsOf K).d_law_bent := fun_of (pickF e 44) s44
  have a45 : PySem.W.nsIn K mainGlobals "_law_kinds" = some (some (.ref (adsOf K).a_law_kinds)) := pickD c 156
  have s45 : fnB K (adsOf K).a_law_kinds "_law_kinds" = true := pick c 157
  have F45 : Fun K "_law_kinds" "_law_kinds" st_law_kinds (adsOf K).a_law_kinds (adsOf K).d_law_kinds := fun_of (pickF e 45) s45
  have a46 : PySem.W.nsIn K mainGlobals "_law_is" = some (some (.ref (adsOf K).a_law_is)) := pickD c 158
  have s46 : fnB K (adsOf K).a_law_is "_law_is" = true := pick c 159
  have F46 : Fun K "_law_is" "_law_is" st_law_is (adsOf K).a_law_is (adsOf K).d_law_is := fun_of (pickF e 46) s46
  have a47 : PySem.W.nsIn K mainGlobals "_law_right" = some (some (.ref (adsOf K).a_law_right)) := pickD c 160
  have s47 : fnB K (adsOf K).a_law_right "_law_right" = true := pick c 161
  have F47 : Fun K "_law_right" "_law_right" st_law_right (adsOf K).a_law_right (adsOf K).d_law_right := fun_of (pickF e 47) s47
  have a48 : PySem.W.nsIn K mainGlobals "_law_by_hand" = some (some (.ref (adsOf K).a_law_by_hand)) := pickD c 162
  have s48 : fnB K (adsOf K).a_law_by_hand "_law_by_hand" = true := pick c 163
  have F48 : Fun K "_law_by_hand" "_law_by_hand" st_law_by_hand (adsOf K).a_law_by_hand (adsOf K).d_law_by_hand := fun_of (pickF e 48) s48
  have a49 : PySem.W.nsIn K mainGlobals "law" = some (some (.ref (adsOf K).a_law)) := pickD c 164
  have s49 : fnB K (adsOf K).a_law "law" = true := pick c 165
  have F49 : Fun K "law" "law" st_law (adsOf K).a_law (adsOf K).d_law := fun_of (pickF e 49) s49
  have xg_ : PySem.W.specialIn K (.builtin "object.__class__") "__get__" = some (some (.builtin "getset_descriptor.__get__")) := pickD c 166
  have xt_ : PySem.W.takesIn K (.builtin "object.__class__") = some true := pickD c 167
  have fb_ : famChk K (adsOf K).c_Statement famAttrs = true := pick c 168
  have fc_ : ((adsOf K).fam.all fun C => famChk K C famAttrs) = true := pick c 169
  have fam : ∀ C ∈ (adsOf K).fam, FamC K C famAttrs := fun C h => famC_of (List.all_eq_true.mp fc_ C h) xg_ xt_
  have ft_ : tabChk K (adsOf K).fam = true := pick c 170
  have fu_ : ((adsOf K).fam.all fun C => (PySem.W.mroIn K C (.ref (adsOf K).c_Statement) == some true) && ((PySem.W.subIn K (.ref C) (.ref (adsOf K).c_Statement) == some true) && (C != (adsOf K).c_Statement))) = true := pick c 171
  have fy_ : ((adsOf K).fam.all fun C => PySem.W.mroIn K C (.ref C) == some true) = true := pick c 172
  have fv_ : ((adsOf K).fam.all fun C => PySem.W.ks_superIn K C C "__init__" == some (some (.ref (adsOf K).a_Statement___init__))) = true := pick c 173
  have fw5 : ((adsOf K).fam.all fun C => PySem.W.findIn K (.ref C) "amount" == some (some (.ref (adsOf K).p_Statement_amount))) = true := pick c 174
  have fw6 : ((adsOf K).fam.all fun C => PySem.W.findIn K (.ref C) "level" == some (some (.ref (adsOf K).p_Statement_level))) = true := pick c 175
  have fw7 : ((adsOf K).fam.all fun C => PySem.W.findIn K (.ref C) "__eq__" == some (some (.ref (adsOf K).a_Statement___eq__))) = true := pick c 176
  have fw8 : ((adsOf K).fam.all fun C => PySem.W.findIn K (.ref C) "__str__" == some (some (.ref (adsOf K).a_Statement___str__))) = true := pick c 177
  have fw9 : ((adsOf K).fam.all fun C => PySem.W.findIn K (.ref C) "__repr__" == some (some (.ref (adsOf K).a_Statement___repr__))) = true := pick c 178
  have fx_ : ((adsOf K).fam.all fun C => PySem.W.readsIn K C (.type "type") && (PySem.W.specialIn K (.ref C) "__getattribute__" == some (some (.builtin "type.__getattribute__")))) = true := pick c 179
  have wa_Look : conB K (adsOf K).c_Look "WORD" "look" = true := pick c 180
  have wc_Look : cvalB K (adsOf K).c_Look "WORD" "look" = true := pick c 181
  have wa_Put : conB K (adsOf K).c_Put "WORD" "put" = true := pick c 182
  have wc_Put : cvalB K (adsOf K).c_Put "WORD" "put" = true := pick c 183
  have wa_Swap : conB K (adsOf K).c_Swap "WORD" "swap" = true := pick c 184
  have wc_Swap : cvalB K (adsOf K).c_Swap "WORD" "swap" = true := pick c 185
  have wa_Try : conB K (adsOf K).c_Try "WORD" "try" = true := pick c 186
  have wc_Try : cvalB K (adsOf K).c_Try "WORD" "try" = true := pick c 187
  have wa_Let : conB K (adsOf K).c_Let "WORD" "let" = true := pick c 188
  have wc_Let : cvalB K (adsOf K).c_Let "WORD" "let" = true := pick c 189
  have wa_Leave : conB K (adsOf K).c_Leave "WORD" "leave" = true := pick c 190
  have wc_Leave : cvalB K (adsOf K).c_Leave "WORD" "leave" = true := pick c 191
  have wa_Return : conB K (adsOf K).c_Return "WORD" "return" = true := pick c 192
  have wc_Return : cvalB K (adsOf K).c_Return "WORD" "return" = true := pick c 193
  have wa_If : conB K (adsOf K).c_If "WORD" "if" = true := pick c 194
  have wc_If : cvalB K (adsOf K).c_If "WORD" "if" = true := pick c 195
  have wa_Loop : conB K (adsOf K).c_Loop "WORD" "loop" = true := pick c 196
  have wc_Loop : cvalB K (adsOf K).c_Loop "WORD" "loop" = true := pick c 197
  have wa_Joined : conB K (adsOf K).c_Joined "WORD" "joined" = true := pick c 198
  have wc_Joined : cvalB K (adsOf K).c_Joined "WORD" "joined" = true := pick c 199
  have mk_Look : PySem.W.makesIn K (adsOf K).c_Look = true := pick c 200
  have kc_Look : PySem.W.keepIn K (.ref (adsOf K).c_Look) = true := pick c 201
  have mk_Put : PySem.W.makesIn K (adsOf K).c_Put = true := pick c 202
  have kc_Put : PySem.W.keepIn K (.ref (adsOf K).c_Put) = true := pick c 203
  have mk_Swap : PySem.W.makesIn K (adsOf K).c_Swap = true := pick c 204
  have kc_Swap : PySem.W.keepIn K (.ref (adsOf K).c_Swap) = true := pick c 205
  have mk_Try : PySem.W.makesIn K (adsOf K).c_Try = true := pick c 206
  have kc_Try : PySem.W.keepIn K (.ref (adsOf K).c_Try) = true := pick c 207
  have mk_Let : PySem.W.makesIn K (adsOf K).c_Let = true := pick c 208
  have kc_Let : PySem.W.keepIn K (.ref (adsOf K).c_Let) = true := pick c 209
  have mk_Leave : PySem.W.makesIn K (adsOf K).c_Leave = true := pick c 210
  have kc_Leave : PySem.W.keepIn K (.ref (adsOf K).c_Leave) = true := pick c 211
  have mk_Return : PySem.W.makesIn K (adsOf K).c_Return = true := pick c 212
  have kc_Return : PySem.W.keepIn K (.ref (adsOf K).c_Return) = true := pick c 213
  have mk_If : PySem.W.makesIn K (adsOf K).c_If = true := pick c 214
  have kc_If : PySem.W.keepIn K (.ref (adsOf K).c_If) = true := pick c 215
  have mk_Loop : PySem.W.makesIn K (adsOf K).c_Loop = true := pick c 216
  have kc_Loop : PySem.W.keepIn K (.ref (adsOf K).c_Loop) = true := pick c 217
  have mk_Joined : PySem.W.makesIn K (adsOf K).c_Joined = true := pick c 218
  have kc_Joined : PySem.W.keepIn K (.ref (adsOf K).c_Joined) = true := pick c 219
  exact ⟨⟨PySem.W.mg_none_of X G z_abs,
    PySem.W.mg_none_of X G z_all,
    PySem.W.mg_none_of X G z_divmod,
    PySem.W.mg_none_of X G z_enumerate,
    PySem.W.mg_none_of X G z_int,
    PySem.W.mg_none_of X G z_isinstance,
    PySem.W.mg_none_of X G z_len,
    PySem.W.mg_none_of X G z_list,
    PySem.W.mg_none_of X G z_max,
    PySem.W.mg_none_of X G z_min,
    PySem.W.mg_none_of X G z_property,
    PySem.W.mg_none_of X G z_range,
    PySem.W.mg_none_of X G z_repr,
    PySem.W.mg_none_of X G z_str,
    PySem.W.mg_none_of X G z_sum,
    PySem.W.mg_none_of X G z_super,
    PySem.W.mg_none_of X G z_tuple,
    PySem.W.mg_of X G q_MAX_STATEMENTS,
    PySem.W.mg_of X G q_MAX_LEVEL,
    PySem.W.mg_of X G q_LETTERS,
    PySem.W.mg_of X G q_SIGNS,
    PySem.W.mg_of X G q_NOTHING,
    PySem.W.mg_of X G q_YES,
    PySem.W.mg_of X G q_LONGEST,
    PySem.W.mg_of X G q_TOGETHER,
    fun H => tupS_ok r_TOGETHER H,
    PySem.W.mg_of X G a_Statement,
    PySem.W.mg_of X G a_Look,
    PySem.W.mg_of X G a_Put,
    PySem.W.mg_of X G a_Swap,
    PySem.W.mg_of X G a_Try,
    PySem.W.mg_of X G a_Let,
    PySem.W.mg_of X G a_If,
    PySem.W.mg_of X G a_Loop,
    PySem.W.mg_of X G a_Leave,
    PySem.W.mg_of X G a_Return,
    PySem.W.mg_of X G a_Joined,
    F0,
    F0.kp,
    F0.binds (ps := ["value"]) fun _ _ _ _ _ _ us hl => match us, hl with | [_], _ => rfl,
    PySem.W.mg_of X G a0,
    F1,
    F1.kp,
    F1.binds (ps := ["value"]) fun _ _ _ _ _ _ us hl => match us, hl with | [_], _ => rfl,
    PySem.W.mg_of X G a1,
    F2,
    F2.kp,
    F2.binds (ps := ["value"]) fun _ _ _ _ _ _ us hl => match us, hl with | [_], _ => rfl,
    PySem.W.mg_of X G a2,
    F3,
    F3.kp,
    F3.binds (ps := ["value"]) fun _ _ _ _ _ _ us hl => match us, hl with | [_], _ => rfl,
    PySem.W.mg_of X G a3,
    F4,
    (Bool.and_eq_true_iff.mp s4).1,
    FunV.bindsD (its := dvals K (adsOf K).a_Statement___init__ [true, true, true]) (n := 2) (j := 0) F4 L4 O4 rfl fun _ _ _ _ _ _ us hl => match us, hl with | [_, _], _ => ⟨_, rfl, rfl⟩,
    FunV.bindsD (its := dvals K (adsOf K).a_Statement___init__ [true, true, true]) (n := 3) (j := 1) F4 L4 O4 rfl fun _ _ _ _ _ _ us hl => match us, hl with | [_, _, _], _ => ⟨_, rfl, rfl⟩,
    FunV.bindsD (its := dvals K (adsOf K).a_Statement___init__ [true, true, true]) (n := 4) (j := 2) F4 L4 O4 rfl fun _ _ _ _ _ _ us hl => match us, hl with | [_, _, _, _], _ => ⟨_, rfl, rfl⟩,
    FunV.bindsD (its := dvals K (adsOf K).a_Statement___init__ [true, true, true]) (n := 5) (j := 3) F4 L4 O4 rfl fun _ _ _ _ _ _ us hl => match us, hl with | [_, _, _, _, _], _ => ⟨_, rfl, rfl⟩,
    (tup0_ok (E4 (true, 0) (by decide) rfl)).1,
    (tup0_ok (E4 (true, 0) (by decide) rfl)).2,
    (tup0_ok (E4 (true, 1) (by decide) rfl)).1,
    (tup0_ok (E4 (true, 1) (by decide) rfl)).2,
    (tup0_ok (E4 (true, 2) (by decide) rfl)).1,
    (tup0_ok (E4 (true, 2) (by decide) rfl)).2,
    fi4,
    ft4,
    F5,
    F5.kp,
    F5.binds (ps := ["self"]) fun _ _ _ _ _ _ us hl => match us, hl with | [_], _ => rfl,
    F6,
    F6.kp,
    F6.binds (ps := ["self"]) fun _ _ _ _ _ _ us hl => match us, hl with | [_], _ => rfl,
    F7,
    F7.kp,
    F7.binds (ps := ["self", "other"]) fun _ _ _ _ _ _ us hl => match us, hl with | [_, _], _ => rfl,
    F8,
    F8.kp,
    F8.binds (ps := ["self"]) fun _ _ _ _ _ _ us hl => match us, hl with | [_], _ => rfl,
    F9,
    F9.kp,
    F9.binds (ps := ["self"]) fun _ _ _ _ _ _ us hl => match us, hl with | [_], _ => rfl,
    F10,
    (Bool.and_eq_true_iff.mp s10).1,
    SFunN.binds N10 fun _ _ _ _ _ _ us hl => match us, hl with | [_, _, _], _ => rfl,
    F11,
    (Bool.and_eq_true_iff.mp s11).1,
    SFunN.binds N11 fun _ _ _ _ _ _ us hl => match us, hl with | [_, _, _], _ => rfl,
    F12,
    (Bool.and_eq_true_iff.mp s12).1,
    SFunN.binds N12 fun _ _ _ _ _ _ us hl => match us, hl with | [_, _, _, _], _ => rfl,
    F13,
    (Bool.and_eq_true_iff.mp s13).1,
    SFunN.binds N13 fun _ _ _ _ _ _ us hl => match us, hl with | [_, _, _, _, _], _ => rfl,
    F14,
    (Bool.and_eq_true_iff.mp s14).1,
    SFunN.binds N14 fun _ _ _ _ _ _ us hl => match us, hl with | [_, _, _], _ => rfl,
    F15,
    (Bool.and_eq_true_iff.mp s15).1,
    SFun.bindsD (its := dvals K (adsOf K).a_If___init__ [true]) (n := 4) (j := 0) G15 L15 O15 rfl fun _ _ _ _ _ _ us hl => match us, hl with | [_, _, _, _], _ => ⟨_, rfl, rfl⟩,
    SFun.bindsD (its := dvals K (adsOf K).a_If___init__ [true]) (n := 5) (j := 1) G15 L15 O15 rfl fun _ _ _ _ _ _ us hl => match us, hl with | [_, _, _, _, _], _ => ⟨_, rfl, rfl⟩,
    (tup0_ok (E15 (true, 0) (by decide) rfl)).1,
    (tup0_ok (E15 (true, 0) (by decide) rfl)).2,
    F16,
    (Bool.and_eq_true_iff.mp s16).1,
    SFunN.binds N16 fun _ _ _ _ _ _ us hl => match us, hl with | [_, _], _ => rfl,
    F17,
    (Bool.and_eq_true_iff.mp s17).1,
    SFunN.binds N17 fun _ _ _ _ _ _ us hl => match us, hl with | [_], _ => rfl,
    F18,
    (Bool.and_eq_true_iff.mp s18).1,
    SFunN.binds N18 fun _ _ _ _ _ _ us hl => match us, hl with | [_, _], _ => rfl,
    F19,
    (Bool.and_eq_true_iff.mp s19).1,
    SFunN.binds N19 fun _ _ _ _ _ _ us hl => match us, hl with | [_, _], _ => rfl,
    F20,
    F20.kp,
    F20.binds (ps := ["body"]) fun _ _ _ _ _ _ us hl => match us, hl with | [_], _ => rfl,
    PySem.W.mg_of X G a20,
    F21,
    F21.kp,
    F21.binds (ps := ["part"]) fun _ _ _ _ _ _ us hl => match us, hl with | [_], _ => rfl,
    PySem.W.mg_of X G a21,
    F22,
    F22.kp,
    F22.binds (ps := ["value"]) fun _ _ _ _ _ _ us hl => match us, hl with | [_], _ => rfl,
    PySem.W.mg_of X G a22,
    F23,
    F23.kp,
    F23.binds (ps := ["value"]) fun _ _ _ _ _ _ us hl => match us, hl with | [_], _ => rfl,
    PySem.W.mg_of X G a23,
    F24,
    F24.kp,
    F24.binds (ps := ["_law_numbers", "_law_k"]) fun _ _ _ _ _ _ us hl => match us, hl with | [_, _], _ => rfl,
    PySem.W.mg_of X G a24,
    F25,
    F25.kp,
    F25.binds (ps := ["_law_number_here"]) fun _ _ _ _ _ _ us hl => match us, hl with | [_], _ => rfl,
    PySem.W.mg_of X G a25,
    F26,
    F26.kp,
    F26.binds (ps := ["_law_source_here", "_law_many"]) fun _ _ _ _ _ _ us hl => match us, hl with | [_, _], _ => rfl,
    PySem.W.mg_of X G a26,
    F27,
    F27.kp,
    F27.binds (ps := ["_law_source_here"]) fun _ _ _ _ _ _ us hl => match us, hl with | [_], _ => rfl,
    PySem.W.mg_of X G a27,
    F28,
    F28.kp,
    F28.binds (ps := ["_law_source_here", "_law_many"]) fun _ _ _ _ _ _ us hl => match us, hl with | [_, _], _ => rfl,
    PySem.W.mg_of X G a28,
    F29,
    F29.kp,
    F29.binds (ps := ["_law_tree"]) fun _ _ _ _ _ _ us hl => match us, hl with | [_], _ => rfl,
    PySem.W.mg_of X G a29,
    F30,
    F30.kp,
    F30.binds (ps := ["_law_tree"]) fun _ _ _ _ _ _ us hl => match us, hl with | [_], _ => rfl,
    PySem.W.mg_of X G a30,
    F31,
    F31.kp,
    F31.binds (ps := ["_law_trees", "_law_indent"]) fun _ _ _ _ _ _ us hl => match us, hl with | [_, _], _ => rfl,
    PySem.W.mg_of X G a31,
    F32,
    F32.kp,
    F32.binds (ps := ["_law_source_here", "_law_tree"]) fun _ _ _ _ _ _ us hl => match us, hl with | [_, _], _ => rfl,
    PySem.W.mg_of X G a32,
    F33,
    F33.kp,
    F33.binds (ps := ["_law_source_here", "_law_tree", "_law_way"]) fun _ _ _ _ _ _ us hl => match us, hl with | [_, _, _], _ => rfl,
    PySem.W.mg_of X G a33,
    F34,
    F34.kp,
    F34.binds (ps := ["_law_trees"]) fun _ _ _ _ _ _ us hl => match us, hl with | [_], _ => rfl,
    PySem.W.mg_of X G a34,
    F35,
    F35.kp,
    F35.binds (ps := ["_law_trees"]) fun _ _ _ _ _ _ us hl => match us, hl with | [_], _ => rfl,
    PySem.W.mg_of X G a35,
    F36,
    F36.kp,
    F36.binds (ps := ["_law_source_here", "_law_world"]) fun _ _ _ _ _ _ us hl => match us, hl with | [_, _], _ => rfl,
    PySem.W.mg_of X G a36,
    F37,
    F37.kp,
    F37.binds (ps := ["_law_source_here", "_law_names"]) fun _ _ _ _ _ _ us hl => match us, hl with | [_, _], _ => rfl,
    PySem.W.mg_of X G a37,
    F38,
    F38.kp,
    F38.binds (ps := ["_law_source_here", "_law_world", "_law_deep", "_law_sort"]) fun _ _ _ _ _ _ us hl => match us, hl with | [_, _, _, _], _ => rfl,
    PySem.W.mg_of X G a38,
    F39,
    F39.kp,
    F39.binds (ps := ["_law_source_here", "_law_world", "_law_deep", "_law_sort"]) fun _ _ _ _ _ _ us hl => match us, hl with | [_, _, _, _], _ => rfl,
    PySem.W.mg_of X G a39,
    F40,
    F40.kp,
    F40.binds (ps := ["_law_trees", "_law_most", "_law_paces_here"]) fun _ _ _ _ _ _ us hl => match us, hl with | [_, _, _], _ => rfl,
    PySem.W.mg_of X G a40,
    F41,
    F41.kp,
    F41.binds (ps := ["_law_source_here", "_law_world", "_law_sort"]) fun _ _ _ _ _ _ us hl => match us, hl with | [_, _, _], _ => rfl,
    PySem.W.mg_of X G a41,
    F42,
    F42.kp,
    F42.binds (ps := ["_law_source_here", "_law_world"]) fun _ _ _ _ _ _ us hl => match us, hl with | [_, _], _ => rfl,
    PySem.W.mg_of X G a42,
    F43,
    F43.kp,
    F43.binds (ps := ["_law_tree"]) fun _ _ _ _ _ _ us hl => match us, hl with | [_], _ => rfl,
    PySem.W.mg_of X G a43,
    F44,
    F44.kp,
    F44.binds (ps := ["_law_source_here", "_law_tree"]) fun _ _ _ _ _ _ us hl => match us, hl with | [_, _], _ => rfl,
    PySem.W.mg_of X G a44,
    F45,
    F45.kp,
    F45.binds (ps := ["_law_thing"]) fun _ _ _ _ _ _ us hl => match us, hl with | [_], _ => rfl,
    PySem.W.mg_of X G a45,
    F46,
    F46.kp,
    F46.binds (ps := ["_law_thing", "_law_tree"]) fun _ _ _ _ _ _ us hl => match us, hl with | [_, _], _ => rfl,
    PySem.W.mg_of X G a46,
    F47,
    F47.kp,
    F47.binds (ps := ["_law_source_here"]) fun _ _ _ _ _ _ us hl => match us, hl with | [_], _ => rfl,
    PySem.W.mg_of X G a47,
    F48,
    F48.kp,
    F48.binds (ps := []) fun _ _ _ _ _ _ us hl => match us, hl with | [], _ => rfl,
    PySem.W.mg_of X G a48,
    F49,
    F49.kp,
    F49.binds (ps := ["_law_numbers"]) fun _ _ _ _ _ _ us hl => match us, hl with | [_], _ => rfl,
    PySem.W.mg_of X G a49,
    famC_of fb_ xg_ xt_,
    fam,
    tab_of ft_ fam,
    fun C h => sub_of fb_ (List.all_eq_true.mp fu_ C h),
    fun C h => beq_iff_eq.mp (List.all_eq_true.mp fy_ C h),
    fun C h => beq_iff_eq.mp (List.all_eq_true.mp fv_ C h),
    fun C h => ⟨(fam C h).cl, prop_of (beq_iff_eq.mp (List.all_eq_true.mp fw5 C h)) pr5⟩,
    fun C h => ⟨(fam C h).cl, prop_of (beq_iff_eq.mp (List.all_eq_true.mp fw6 C h)) pr6⟩,
    fun C h => ⟨beq_iff_eq.mp (List.all_eq_true.mp fw7 C h), i7⟩,
    fun C h => ⟨beq_iff_eq.mp (List.all_eq_true.mp fw8 C h), i8⟩,
    fun C h => ⟨beq_iff_eq.mp (List.all_eq_true.mp fw9 C h), i9⟩,
    fun C h => cread_of (List.all_eq_true.mp fx_ C h),
    con_of wa_Look (by decide +kernel),
    cval_of wc_Look,
    con_of wa_Put (by decide +kernel),
    cval_of wc_Put,
    con_of wa_Swap (by decide +kernel),
    cval_of wc_Swap,
    con_of wa_Try (by decide +kernel),
    cval_of wc_Try,
    con_of wa_Let (by decide +kernel),
    cval_of wc_Let,
    con_of wa_Leave (by decide +kernel),
    cval_of wc_Leave,
    con_of wa_Return (by decide +kernel),
    cval_of wc_Return,
    con_of wa_If (by decide +kernel),
    cval_of wc_If,
    con_of wa_Loop (by decide +kernel),
    cval_of wc_Loop,
    con_of wa_Joined (by decide +kernel),
    cval_of wc_Joined,
    ⟨mk_Look, a10, i10, kc_Look⟩,
    SFunN.kbn (g := @kp_Look) N10 (fun _ _ _ _ _ _ us ws h1 h2 => match us, ws, h1, h2 with | [_], [_, _], _, _ => rfl) kp_Look_rel,
    ⟨mk_Put, a11, i11, kc_Put⟩,
    SFunN.kbn (g := @kp_Put) N11 (fun _ _ _ _ _ _ us ws h1 h2 => match us, ws, h1, h2 with | [_], [_, _], _, _ => rfl) kp_Put_rel,
    ⟨mk_Swap, a12, i12, kc_Swap⟩,
    SFunN.kbn (g := @kp_Swap) N12 (fun _ _ _ _ _ _ us ws h1 h2 => match us, ws, h1, h2 with | [_], [_, _, _], _, _ => rfl) kp_Swap_rel,
    ⟨mk_Try, a13, i13, kc_Try⟩,
    SFunN.kbn (g := @kp_Try) N13 (fun _ _ _ _ _ _ us ws h1 h2 => match us, ws, h1, h2 with | [_], [_, _, _, _], _, _ => rfl) kp_Try_rel,
    ⟨mk_Let, a14, i14, kc_Let⟩,
    SFunN.kbn (g := @kp_Let) N14 (fun _ _ _ _ _ _ us ws h1 h2 => match us, ws, h1, h2 with | [_], [_, _], _, _ => rfl) kp_Let_rel,
    ⟨mk_Leave, a17, i17, kc_Leave⟩,
    ⟨mk_Return, a18, i18, kc_Return⟩,
    SFunN.kbn (g := @kp_Return) N18 (fun _ _ _ _ _ _ us ws h1 h2 => match us, ws, h1, h2 with | [_], [_], _, _ => rfl) kp_Return_rel,
    ⟨mk_If, a15, i15, kc_If⟩,
    SFunD.kbn (g := @kp_If) G15 L15 O15 (fun _ _ _ _ _ _ us ws h1 h2 => match us, ws, h1, h2 with | [_], [_, _, _, _], _, _ => ⟨_, rfl, rfl⟩) kp_If_rel,
    ⟨mk_Loop, a16, i16, kc_Loop⟩,
    SFunN.kbn (g := @kp_Loop) N16 (fun _ _ _ _ _ _ us ws h1 h2 => match us, ws, h1, h2 with | [_], [_], _, _ => rfl) kp_Loop_rel,
    ⟨mk_Joined, a19, i19, kc_Joined⟩,
    SFunN.kbn (g := @kp_Joined) N19 (fun _ _ _ _ _ _ us ws h1 h2 => match us, ws, h1, h2 with | [_], [_], _, _ => rfl) kp_Joined_rel⟩, fun s v => Mo.Fun.law F49 (p := "_law_numbers") (fun _ _ _ _ _ _ _ => rfl) s v⟩
end K04
set_option Elab.async false
set_option linter.all false
set_option maxRecDepth 100000
set_option maxHeartbeats 4000000
namespace K04
open PySem PySem.Spec PyProof.Rows L2 Mo
section
variable {w : World} {K : PySem.W.Frag} {mg : Str → Option Value} {base : Heap} {A : Ads}
theorem ok_law_take (T : Txt K mg A) : FnOk P w K mg base CX0 1 A.a_law_take A.d_law_take ["_law_source_here", "_law_many"] spTake := by
  have nd := sc_law_take.nd
  refine T.f_law_take.ok sc_law_take (fun vs H Q E h => ?_) (fun cdv A' outer s H vs Q E hr h => ?_)
  · obtain ⟨a, m, rfl, _⟩ := h
    rfl
  · obtain ⟨a, m, rfl, ⟨x, y, c, ha, x0, x1⟩, m0, m1, k⟩ := h
    refine ⟨_, (pss_cons (ps_asg (pe_op op_add (pe_ix ix_list (pv 0) pe_int (fun _ _ => rfl)) pe_int) (pg_sub (pv 0) pe_int set_list))
      (pss_cons (ps_if (pt_cmpR op_gt (pe_ix ix_list (pv 0) pe_int (fun _ _ => rfl)) pe_int (nomark _)) (pss_cons (ps_asg (pe_callB call_divmod (by rfl) T.b_divmod (by decide +kernel) (pa_cons (pe_ix ix_list (pv 0) pe_int (fun _ _ => rfl)) (pa_cons (pv 1) pa_nil))) (pg_tup rfl (pgs_cons (pg_sub (pv 0) pe_int set_list) (pgs_cons (pg_name (i := 3) nd rfl (Or.inl rfl)) pgs_nil))))
      (pss_one (ps_ret (pv 3)))) pss_nil)
      (pss_cons (ps_set (i := 2) nd rfl (Or.inl rfl) (pe_callTy call_int1 (by rfl) T.b_int (by decide +kernel) (pa_cons (pe_ix ix_list (pv 0) pe_int (fun _ _ => rfl)) pa_nil)))
      (pss_cons (ps_asg (pe_op op_mod (pe_callTy call_int1 (by rfl) T.b_int (by decide +kernel) (pa_cons (pe_op op_add (pe_op op_add (pe_op op_mul (pv 2) (pe_op op_add (pe_op op_fdiv (pv 2) pe_int) pe_int)) (pe_op op_mul pe_int (pe_ix ix_list (pv 0) pe_int (fun _ _ => rfl)))) pe_int) pa_nil)) pe_int) (pg_sub (pv 0) pe_int set_list))
      (pss_one (ps_ret (pe_op op_mod (pe_callTy call_int1 (by rfl) T.b_int (by decide +kernel) (pa_cons (pe_op op_fdiv (pe_ix ix_list (pv 0) pe_int (fun _ _ => rfl)) pe_int) pa_nil)) (pv 1)))))))), ?_⟩
    -- the count
    refine ⟨_, rfl, a, _, _, _, rfl, rfl, SqL.of ha, rfl, _, _, rfl, rfl, _, rfl, a, _, _, _, rfl, rfl, ha, rfl, ?_⟩
    -- are there figures
    refine ⟨_, rfl, a, _, _, _, rfl, rfl, SqL.of upd_same, rfl, _, _, rfl, rfl, _, rfl, ?_⟩
    refine ite2 (fun hy => ?_) (fun hy => ?_)
    · refine ⟨_, rfl, a, _, _, _, rfl, rfl, SqL.of upd_same, rfl, _, rfl, y, m, rfl, ⟨m0, m1⟩, ?_⟩
      intro p hp
      have npa : a ≠ p := ne_of_none upd_same hp
      refine ⟨p, _, rfl, SqT.of upd_same, rfl, ?_⟩
      refine ⟨_, _, rfl, _, rfl, a, _, _, _, rfl, rfl, (upd_ne npa).trans upd_same, rfl, _, _, rfl, rfl, ?_⟩
      refine ⟨_, rfl, ?_⟩
      refine k (y % m) _ (Int.emod_nonneg _ (by omega)) (Int.emod_lt_of_pos _ m0) ⟨x, y / m, c + 1, upd_same, x0, x1⟩ ?_
      intro b o hb e
      have hbp : b ≠ p := fun z => by
        subst z
        rw [upd_ne hb, e] at hp
        cases hp
      rw [upd_ne hb, upd_ne hbp, upd_ne hb]
      exact e
    · refine ⟨_, rfl, a, _, _, _, rfl, rfl, SqL.of upd_same, rfl, Or.inl ⟨x, rfl, ?_⟩⟩
      have x2 : 0 ≤ x / 7 := Int.ediv_nonneg x0 (by decide)
      refine ⟨_, rfl, _, rfl, _, _, rfl, rfl, ⟨by decide, by decide⟩, _, _, rfl, rfl, _, _, rfl, rfl, Or.inl ⟨by omega, by omega⟩,
        _, rfl, a, _, _, _, rfl, rfl, SqL.of upd_same, rfl, _, _, rfl, rfl, Or.inl ⟨by decide, by decide⟩, _, _, rfl, rfl, _, _, rfl, rfl, Or.inl ⟨_, rfl, ?_⟩⟩
      refine ⟨_, _, rfl, rfl, (by show (0 : Int) < 2147483587; decide), _, rfl, a, _, _, _, rfl, rfl, upd_same, rfl, ?_⟩
      refine ⟨_, rfl, a, _, _, _, rfl, rfl, SqL.of upd_same, rfl, _, _, rfl, rfl, ⟨by decide, by decide⟩, Or.inl ⟨_, rfl, ?_⟩⟩
      refine ⟨_, rfl, _, _, rfl, rfl, m0, ?_⟩
      refine k _ _ (Int.emod_nonneg _ (by omega)) (Int.emod_lt_of_pos _ m0) ⟨_, y, c + 1, upd_same, Int.emod_nonneg _ (by decide), ?_⟩ ?_
      · exact Int.le_of_lt (Int.emod_lt_of_pos _ (by decide))
      · intro b o hb e
        rw [upd_ne hb, upd_ne hb]
        exact e
theorem ok_law_source (T : Txt K mg A) : FnOk P w K mg base CX0 1 A.a_law_source A.d_law_source ["_law_number_here"] spSource := by
  have nd := sc_law_source.nd
  refine T.f_law_source.ok sc_law_source (fun vs H Q E h => ?_) (fun cdv A' outer s H vs Q E hr h => ?_)
  · obtain ⟨n, rfl, _⟩ := h
    rfl
  · obtain ⟨n, rfl, k⟩ := h
    refine ⟨_, (pss_cons (ps_set (i := 1) nd rfl (Or.inl rfl) (pe_ifExp (PW.pt (pw_or (pt_cmpR op_lt (pv 0) pe_int (nomark _)) (pw_or1 (pt_cmpR op_ge (pv 0) (pe_op op_pow pe_int pe_int) (nomark _))))) (pe_callB call_abs (by rfl) T.b_abs (by decide +kernel) (pa_cons (pv 0) pa_nil)) pe_int))
      (pss_one (ps_ret (pe_lst (pa_cons (pe_op op_add (pe_op op_mod (pe_callTy call_int1 (by rfl) T.b_int (by decide +kernel) (pa_cons (pe_callB call_abs (by rfl) T.b_abs (by decide +kernel) (pa_cons (pv 0) pa_nil)) pa_nil)) pe_int) pe_int) (pa_cons (pv 1) (pa_cons pe_int pa_nil))))))), ?_⟩
    have fin : ∀ y : Int, tRet (tLst (tCons (tOp (rI0 fun i j => V.int (i + j)) (tOp (rI (fun _ j => 0 < j) fun i j => .int (i % j)) (tCB (fun xs H Q => (∃ i, xs = [V.int i] ∧ Q (V.int i) H) ∨ ∃ k, xs = [V.bl k] ∧ Q (V.int (if k = true then 1 else 0)) H)
        (tCons (tCB (fun xs H Q => ∃ i, xs = [V.int i] ∧ Q (.int (if i < 0 then -i else i)) H) (tCons (tVar 0) tNil)) tNil)) (tC (.int 2147483587))) (tC (.int 1))) (tCons (tVar 1) (tCons (tC (.int 0)) tNil)))) { nx := fun _ H' => Q .non H', rt := Q } [some (.int n), some (.int y)] H := by
      intro y
      refine ⟨_, rfl, _, rfl, Or.inl ⟨_, rfl, _, _, rfl, rfl, (by show (0 : Int) < 2147483587; decide), _, _, rfl, rfl, _, rfl, (by show 3 ≤ sizeLine; decide), ?_⟩⟩
      intro p hp
      refine k p _ hp (same_new hp) ⟨_, _, _, upd_same, ?_, ?_⟩
      · have := Int.emod_nonneg (if n < 0 then -n else n) (show (2147483587 : Int) ≠ 0 by decide)
        omega
      · have := Int.emod_lt_of_pos (if n < 0 then -n else n) (show (0 : Int) < 2147483587 by decide)
        omega
    refine ⟨_, rfl, _, _, rfl, rfl, _, rfl, ?_⟩
    refine ite2 (fun _ => iteT ?_) (fun _ => ?_)
    · exact ⟨_, rfl, _, rfl, fin _⟩
    · refine ⟨_, rfl, _, _, rfl, rfl, ⟨by decide, by decide, by decide⟩, _, _, rfl, rfl, _, rfl, ?_⟩
      refine ite2 (fun _ => ?_) (fun _ => ?_)
      · exact ⟨_, rfl, _, rfl, fin _⟩
      · exact fin _
theorem ok_law_number (T : Txt K mg A) : FnOk P w K mg base CX0 1 A.a_law_number A.d_law_number ["_law_numbers", "_law_k"] (spNumber K) := by
  have nd := sc_law_number.nd
  refine T.f_law_number.ok sc_law_number (fun vs H Q E h => ?_) (fun cdv A' outer s H vs Q E hr h => ?_)
  · obtain ⟨a, ns, k, rfl, _⟩ := h
    rfl
  · obtain ⟨a, ns, i, rfl, hS, hb, i0, i1, k⟩ := h
    refine ⟨_, (pss_cons (ps_if (pt_cmpR op_lt (pv 1) (pe_callB call_len_seq (by rfl) T.b_len (by decide +kernel) (pa_cons (pv 0) pa_nil)) (nomark _)) (pss_one (ps_ret (pe_ix ix_list (pv 0) (pv 1) (fun _ _ => rfl)))) pss_nil)
      (pss_cons (ps_set (i := 2) nd rfl (Or.inl rfl) (pe_op op_add (pe_op op_add (pe_op op_mul (pe_op op_mul pe_int (pv 1)) (pv 1)) (pe_op op_mul pe_int (pv 1))) pe_int))
      (pss_cons (ps_for PassesOwn.never rfl (pi_list (pe_slice sl_list (pv 0) po_none (po_some pe_int))) (pg_name (i := 3) nd rfl (Or.inl rfl)) (pss_one (ps_set (i := 2) nd rfl (Or.inl rfl) (pe_op op_mod (pe_callTy call_int1 (by rfl) T.b_int (by decide +kernel) (pa_cons (pe_op op_add (pe_op op_add (pe_op op_mul (pv 2) pe_int) (pe_op op_mulX (pv 3) (pv 3))) (pv 1)) pa_nil)) pe_int))))
      (pss_one (ps_ret (pv 2)))))), ?_⟩
    refine ⟨_, rfl, _, rfl, a, _, rfl, Or.inl hS, _, _, rfl, rfl, _, rfl, ?_⟩
    refine ite2 (fun hi => ?_) (fun _ => ?_)
    · have hi := of_decide_eq_true hi
      rw [List.length_map] at hi
      obtain ⟨j, rfl⟩ := Int.eq_ofNat_of_zero_le i0
      have hj : j < ns.length := by omega
      refine ⟨_, rfl, _, rfl, a, _, _, V.int ns[j], rfl, rfl, hS, ?_, ?_⟩
      · refine atI_nat (by simp [hj])
      · exact k _ H (Same.refl H)
    · refine ⟨_, rfl, _, _, rfl, rfl, Or.inl ⟨by decide, by decide⟩, _, rfl, _, _, rfl, rfl, Or.inl ⟨by omega, by omega⟩, _, rfl, _, _, rfl, rfl, Or.inl ⟨by decide, by decide⟩, _, _, rfl, rfl, _, _, rfl, rfl, ?_⟩
      refine ⟨_, rfl, _, rfl, a, _, rfl, hS, ?_⟩
      intro p hp
      have hp2 : (upd H p (.lst (cutV (ns.map V.int) none (some 5)))) p = some (.lst (cutV (ns.map V.int) none (some 5))) := upd_same
      refine ⟨p, rfl, ⟨_, SqL.of hp2⟩, for_list (K := K) (a := p) (xs := cutV (ns.map V.int) none (some 5)) (fun _ σ H2 => H2 = upd H p (.lst (cutV (ns.map V.int) none (some 5))) ∧
        ∃ (z : Int) (v : Option V), z < 2 ^ 60 ∧ -(2 ^ 60) < z ∧ σ = [some (.ref a), some (.int i), some (.int z), v]) ⟨rfl, _, none, ?_, ?_, rfl⟩ (fun _ _ H2 _ h => by rw [h.1]; exact SqL.of hp2) ?_ ?_⟩
      · show 7919 * i * i + 4099 * i + 17 < 2 ^ 60
        have e : 7919 * i * i ≤ 7919 * 1000 * 1000 := Int.mul_le_mul (Int.mul_le_mul_of_nonneg_left i1 (by decide)) i1 i0 (by decide)
        omega
      · show -(2 ^ 60) < 7919 * i * i + 4099 * i + 17
        have e : 0 ≤ 7919 * i * i := Int.mul_nonneg (Int.mul_nonneg (by decide) i0) i0
        omega
      · rintro j x σ H2 hx ⟨rfl, z, v, z0, z1, rfl⟩
        obtain ⟨n, rfl, hn⟩ : ∃ n, x = V.int n ∧ n ∈ ns := by
          have hm := List.mem_of_mem_drop (List.mem_of_mem_take (List.mem_of_getElem? hx))
          obtain ⟨n, h1, h2⟩ := List.mem_map.mp hm
          exact ⟨n, h2.symm, h1⟩
        have hbn := hb n hn
        refine ⟨_, rfl, _, _, rfl, rfl, Or.inl ⟨by omega, by omega⟩, _, rfl, _, rfl, _, _, rfl, rfl, (by unfold CMulX; omega), _, _, rfl, rfl, _, rfl, _, _, rfl, rfl, Or.inl ⟨_, rfl, ?_⟩⟩
        refine ⟨_, _, rfl, rfl, (by show (0 : Int) < 2147483587; decide), ?_⟩
        refine ⟨rfl, _, _, ?_, ?_, rfl⟩
        · have := Int.emod_lt_of_pos (z * 60013 + n * n + i) (show (0 : Int) < 2147483587 by decide)
          show (z * 60013 + n * n + i) % 2147483587 < 2 ^ 60
          omega
        · have := Int.emod_nonneg (z * 60013 + n * n + i) (show (2147483587 : Int) ≠ 0 by decide)
          show -(2 ^ 60) < (z * 60013 + n * n + i) % 2147483587
          omega
      · rintro σ H2 ⟨rfl, z, v, _, _, rfl⟩
        exact ⟨_, rfl, k _ _ (same_new hp)⟩
end
end K04
set_option Elab.async false
set_option linter.all false
set_option maxRecDepth 100000
set_option maxHeartbeats 4000000
namespace K04
open PySem PySem.Spec PyProof.Rows L2 Mo
/-! ### what the checks tell -/
def isIntV : V → Bool | .int _ => true | _ => false
def isMarkV : V → Bool | .int i => decide (0 ≤ i) | _ => false
def lets : List Nat := ("abcdefghijklmnopqrstuvwxyz" : Str).cps.toList
def sgns : List Nat := ("abcdefghijklmnopqrstuvwxyz0123456789" : Str).cps.toList
def fixedB (z : Str) : Bool := decide (z = "nothing") || decide (z = "yes")
def nameB (z : Str) : Bool := decide (0 < z.length) && decide (z.length ≤ 8) && !fixedB z && decide (z.cps.toList.headD 0 ∈ lets) && z.cps.toList.all (fun c => decide (c ∈ sgns))
def isNameV : V → Bool | .str z => nameB z | _ => false
def isOperV : V → Bool | .str z => fixedB z || nameB z | _ => false
def isValV : V → Bool | .non => true | .str z => decide (z = "yes") | .int i => decide (0 ≤ i) | _ => false
theorem inV_fixed (z : Str) : inV (.str z) [.str "nothing", .str "yes"] = fixedB z := by
  rw [show [V.str "nothing", V.str "yes"] = (["nothing", "yes"] : List Str).map V.str from rfl, inV_strs]
  unfold fixedB
  rw [Bool.eq_iff_iff]
  simp
/-- a check of a thing: a truth -/
def spTell (f : V → Bool) : Sp := fun vs H Q _ => ∃ (v : V) (n : Ty7), vs = [v] ∧ Th H v n ∧ ∀ H', Same H H' → Q (.bl (f v)) H'
section
variable {w : World} {K : PySem.W.Frag} {mg : Str → Option Value} {base : Heap} {A : Ads}
theorem ok_is_name (T : Txt K mg A) : FnOk P w K mg base CX0 1 A.a_is_name A.d_is_name ["value"] (spTell isNameV) := by
  have nd := sc_is_name.nd
  refine T.f_is_name.ok sc_is_name (fun vs H Q E h => ?_) (fun cdv A' outer s H vs Q E hr h => ?_)
  · obtain ⟨v, n, rfl, _⟩ := h
    rfl
  · obtain ⟨v, n, rfl, th, k⟩ := h
    refine ⟨_, (pss_cons (ps_if (PW.pt (pw_or (pt_not (pt_val (pe_callB call_isi (by rfl) T.b_isinstance (by decide +kernel) (pa_cons (pv 0) (pa_cons (pe_ty "str" T.b_str) pa_nil))))) (pw_or (pt_not (pt_chain op_lt op_le pe_int (pe_callB call_len_str (by rfl) T.b_len (by decide +kernel) (pa_cons (pv 0) pa_nil)) (pe_gI T.c_LONGEST))) (pw_or1 (pt_cmpR op_in_seq (pv 0) (pe_tup (pa_cons (pe_gS T.c_NOTHING) (pa_cons (pe_gS T.c_YES) pa_nil))) (by rfl)))))) (pss_one (ps_ret pe_bl)) pss_nil)
      (pss_one (ps_ret (pe_and (pe_cmpR op_in_sign (pe_ix ix_str (pv 0) pe_int (fun _ _ => rfl)) (pe_gS T.c_LETTERS) (by rfl)) (pe_one (pe_callB (cr_all rfl) (by rfl) T.b_all (by decide +kernel) (pa_cons (pe_lc (own := [("sign", 1)]) (g := gName 1) (tt := tYes) rfl nd (pi_str (pv 0)) (blkOk_by (N := nm_is_name) (sc := defScope st_is_name) (by decide +kernel)) (fun _ _ _ _ _ => (pg_name (i := 1) nd rfl (Or.inl rfl))) (fun _ _ _ _ _ => pts_nil) (fun _ _ _ _ _ => (pe_cmpR op_in_sign (pv 1) (pe_gS T.c_SIGNS) (by rfl)))) pa_nil)))))))
      , ?_⟩
    have q := k H (Same.refl H)
    refine ⟨_, rfl, v, _, _, _, _, rfl, .ty _, th.ty, kit7 n .str (by decide), _, rfl, ?_⟩
    cases th with
    | str z hz ha =>
      refine iteF ?_
      have hz2 := len5000 hz
      refine ⟨_, rfl, z, rfl, hz2, _, _, rfl, rfl, _, rfl, ?_⟩
      refine ite2 (fun h0 => ?_) (fun h0 => ?_)
      · have h0 := of_decide_eq_true h0
        refine ⟨_, _, rfl, rfl, _, rfl, ?_⟩
        refine ite2 (fun h1 => ?_) (fun h1 => ?_)
        · have e : nameB z = false := by
            unfold nameB
            have h2 : (8 : Int) < z.length := by simpa using h1
            have : ¬ z.length ≤ 8 := by omega
            simp [this]
          refine iteT ?_
          show Q (.bl false) H
          rw [show isNameV (V.str z) = nameB z from rfl, e] at q
          exact q
        · have h1 : z.length ≤ 8 := by
            have : decide ((z.length : Int) ≤ 8) = true := by simpa using h1
            have := of_decide_eq_true this
            omega
          refine ⟨_, rfl, (by show 2 ≤ sizeLine; decide), fun p hp => ⟨p, _, rfl, Or.inr (SqT.of upd_same), rfl, rfl, _, rfl, ?_⟩⟩
          have q2 := k _ (same_new (o := .tup [.str "nothing", .str "yes"]) hp)
          have fx : inV (.str z) [.str "nothing", .str "yes"] = fixedB z := inV_fixed z
          refine ite2 (fun h2 => ?_) (fun h2 => ?_)
          · have h2 : inV (.str z) [.str "nothing", .str "yes"] = true := h2
            have e : nameB z = false := by
              unfold nameB
              rw [← fx, h2]
              simp
            show Q (.bl false) _
            rw [show isNameV (V.str z) = nameB z from rfl, e] at q2
            exact q2
          · have h2 : ¬ inV (.str z) [.str "nothing", .str "yes"] = true := h2
            have h2 := Bool.eq_false_iff.mpr h2
            rw [fx] at h2
            have hh : ∃ c l, z.cps.toList = c :: l := by
              cases e : z.cps.toList with
              | nil =>
                have : z.length = 0 := by
                  show z.cps.size = 0
                  rw [← Array.length_toList, e]
                  rfl
                omega
              | cons c l => exact ⟨c, l, rfl⟩
            obtain ⟨c, l, ecl⟩ := hh
            refine ⟨_, rfl, z, _, c, rfl, rfl, hz2, atI_nat (j := 0) (by rw [ecl]; rfl), c, _, rfl, rfl, _, rfl, ?_⟩
            have e0 : nameB z = (decide (c ∈ lets) && z.cps.toList.all (fun c => decide (c ∈ sgns))) := by
              unfold nameB
              have hp : 0 < z.length := by omega
              rw [h2, decide_eq_true hp, decide_eq_true h1, ecl]
              simp
            rw [show isNameV (V.str z) = nameB z from rfl, e0] at k q2
            refine ite2 (fun h3 => ?_) (fun h3 => ?_)
            · have h3 : decide (c ∈ lets) = true := h3
              refine ⟨_, rfl, z, rfl, fun D hD => lc_it walk_str (fun i H2 => i ≤ z.cps.size ∧ Same H H2 ∧ H2 D = some (.lst ((z.cps.toList.take i).map fun c => V.bl (decide (c ∈ sgns))))) ⟨Nat.zero_le _, ?_, upd_same⟩ (fun _ _ _ _ => trivial) ?_ ?_⟩
              · exact (same_new hp).trans (same_new hD)
              · rintro i x H1 H2 hi ⟨_, sm, hd⟩ ⟨rfl, c2, hc, rfl⟩
                have hlen : ((z.cps.toList.take i).map fun c => V.bl (decide (c ∈ sgns))).length < sizeLine := by
                  rw [List.length_map, List.length_take]
                  exact lt5000 (Nat.lt_of_le_of_lt (Nat.min_le_left _ _) (Nat.lt_of_lt_of_le hi hz))
                refine ⟨rfl, _, rfl, c2, _, rfl, rfl, _, hd, hlen, hi, ?_, ?_⟩
                · intro b o e
                  have hb : b ≠ D := ne_of_none e ((same_new hp).free hD)
                  rw [upd_ne hb]
                  exact sm b o e
                · rw [upd_same]
                  have hc2 : z.cps.toList[i]? = some c2 := by simpa using hc
                  rw [List.take_add_one, hc2, List.map_append]
                  rfl
              · rintro H2 ⟨_, sm, hd⟩
                refine ⟨D, z.cps.toList.map fun c => decide (c ∈ sgns), rfl, SqL.of ?_, ?_⟩
                · rw [hd]
                  congr 2
                  rw [List.map_map, List.take_of_length_le (by simp)]
                  rfl
                · have := k H2 sm
                  rw [h3, Bool.true_and] at this
                  rw [List.all_map]
                  exact this
            · have h3 : ¬ decide (c ∈ lets) = true := h3
              have h3 := Bool.eq_false_iff.mpr h3
              show Q (.bl false) _
              rw [h3, Bool.false_and] at q2
              exact q2
      · have e : nameB z = false := by
          unfold nameB
          have : ¬ 0 < z.length := by simpa using h0
          simp [this]
        refine ⟨_, rfl, iteT (iteT ?_)⟩
        show Q (.bl false) H
        rw [show isNameV (V.str z) = nameB z from rfl, e] at q
        exact q
    | _ => exact iteT (iteT q)
theorem ok_is_operand (T : Txt K mg A) : FnOk P w K mg base CX0 2 A.a_is_operand A.d_is_operand ["value"] (spTell isOperV) := by
  have nd := sc_is_operand.nd
  refine T.f_is_operand.ok sc_is_operand (fun vs H Q E h => ?_) (fun cdv A' outer s H vs Q E hr h => ?_)
  · obtain ⟨v, n, rfl, _⟩ := h
    rfl
  · obtain ⟨v, n, rfl, th, k⟩ := h
    refine ⟨_, (pss_one (ps_ret (pe_and (pe_callB call_isi (by rfl) T.b_isinstance (by decide +kernel) (pa_cons (pv 0) (pa_cons (pe_ty "str" T.b_str) pa_nil))) (pe_one (pe_or (pe_cmpR op_in_seq (pv 0) (pe_tup (pa_cons (pe_gS T.c_NOTHING) (pa_cons (pe_gS T.c_YES) pa_nil))) (by rfl)) (pe_one (pe_call (ok_is_name T) (hr.mono (by decide)) (by rfl) T.m_is_name T.k_is_name T.v_is_name .nil pass0 (pa_cons (pv 0) pa_nil)))))))), ?_⟩
    have q := k H (Same.refl H)
    refine ⟨_, rfl, v, _, _, _, _, rfl, .ty _, th.ty, kit7 n .str (by decide), _, rfl, ?_⟩
    cases th with
    | str z hz ha =>
      refine iteT ?_
      refine ⟨_, rfl, (by show 2 ≤ sizeLine; decide), fun p hp => ⟨p, _, rfl, Or.inr (SqT.of upd_same), rfl, rfl, _, rfl, ?_⟩⟩
      have sm := same_new (o := .tup [.str "nothing", .str "yes"]) hp
      have fx : inV (.str z) [.str "nothing", .str "yes"] = fixedB z := inV_fixed z
      refine ite2 (fun h2 => ?_) (fun h2 => ?_)
      · have h2 : inV (.str z) [.str "nothing", .str "yes"] = true := h2
        have q2 := k _ sm
        rw [show isOperV (V.str z) = (fixedB z || nameB z) from rfl, ← fx, h2, Bool.true_or] at q2
        exact q2
      · have h2 : ¬ inV (.str z) [.str "nothing", .str "yes"] = true := h2
        have h2 := Bool.eq_false_iff.mpr h2
        refine ⟨_, rfl, .str z, .str, rfl, .str z hz ha, fun H' e => ?_⟩
        have q2 := k _ (sm.trans e)
        rw [show isOperV (V.str z) = (fixedB z || nameB z) from rfl, ← fx, h2, Bool.false_or] at q2
        exact q2
    | _ => exact iteF q
def spCk (f : V → Bool) : Sp := fun vs H Q _ => ∃ (v : V) (n : Ty7), vs = [v] ∧ Th H v n ∧ f v = true ∧ ∀ H', Same H H' → Q .non H'
theorem ok_check_name (T : Txt K mg A) : FnOk P w K mg base CX0 2 A.a_check_name A.d_check_name ["value"] (spCk isNameV) := by
  have nd := sc_check_name.nd
  refine T.f_check_name.ok sc_check_name (fun vs H Q E h => ?_) (fun cdv A' outer s H vs Q E hr h => ?_)
  · obtain ⟨v, n, rfl, _⟩ := h
    rfl
  · obtain ⟨v, n, rfl, th, hf, k⟩ := h
    refine ⟨_, (pss_one (ps_if (pt_not (pt_val (pe_call (ok_is_name T) (hr.mono (by decide)) (by rfl) T.m_is_name T.k_is_name T.v_is_name .nil pass0 (pa_cons (pv 0) pa_nil)))) (pss_one ps_never) pss_nil)), ?_⟩
    refine ⟨_, rfl, v, n, rfl, th, fun H1 s1 => ⟨_, rfl, ?_⟩⟩
    rw [hf]
    exact iteF (k H1 s1)
theorem ok_check_operand (T : Txt K mg A) : FnOk P w K mg base CX0 3 A.a_check_operand A.d_check_operand ["value"] (spCk isOperV) := by
  have nd := sc_check_operand.nd
  refine T.f_check_operand.ok sc_check_operand (fun vs H Q E h => ?_) (fun cdv A' outer s H vs Q E hr h => ?_)
  · obtain ⟨v, n, rfl, _⟩ := h
    rfl
  · obtain ⟨v, n, rfl, th, hf, k⟩ := h
    refine ⟨_, (pss_one (ps_if (pt_not (pt_val (pe_call (ok_is_operand T) (hr.mono (by decide)) (by rfl) T.m_is_operand T.k_is_operand T.v_is_operand .nil pass0 (pa_cons (pv 0) pa_nil)))) (pss_one ps_never) pss_nil)), ?_⟩
    refine ⟨_, rfl, v, n, rfl, th, fun H1 s1 => ⟨_, rfl, ?_⟩⟩
    rw [hf]
    exact iteF (k H1 s1)
end
end K04
set_option Elab.async false
set_option linter.all false
set_option maxRecDepth 100000
set_option maxHeartbeats 4000000
namespace K04
open PySem PySem.Spec PyProof.Rows L2 Mo
/-! ### what stays: tuples, and objects that are made -/
structure KpT (H H' : Hp) : Prop where
  t : ∀ x xs, H x = some (.tup xs) → H' x = some (.tup xs)
  f : ∀ x o xs, H x = some (.frz o (.tup xs)) → H' x = some (.frz o (.tup xs))
  i : ∀ x C dx fs, H x = some (.ins C dx fs) → fs ≠ [] → H' x = some (.ins C dx fs)
theorem KpT.of_same {H H' : Hp} (e : Same H H') : KpT H H' := ⟨fun _ _ => e _ _, fun _ _ _ => e _ _, fun _ _ _ _ h _ => e _ _ h⟩
theorem KpT.trans {H H1 H2 : Hp} (a : KpT H H1) (b : KpT H1 H2) : KpT H H2 := ⟨fun x xs h => b.t _ _ (a.t _ _ h), fun x o xs h => b.f _ _ _ (a.f _ _ _ h), fun x C dx fs h n => b.i _ _ _ _ (a.i _ _ _ _ h n) n⟩
theorem KpT.lst {H H' : Hp} {a : Addr} {xs : List V} (h : H a = some (.lst xs)) (k : KeepBut a H H') : KpT H H' :=
  ⟨fun x xs e => k _ _ (ne_of e h (by intro z; cases z)) e, fun x o xs e => k _ _ (ne_of e h (by intro z; cases z)) e, fun x C dx fs e _ => k _ _ (ne_of e h (by intro z; cases z)) e⟩
theorem KpT.new {H H' : Hp} {a C dx : Addr} (h : H a = some (.ins C dx [])) (k : KeepBut a H H') : KpT H H' :=
  ⟨fun x xs e => k _ _ (ne_of e h (by intro z; cases z)) e, fun x o xs e => k _ _ (ne_of e h (by intro z; cases z)) e, fun x C dx fs e n => k _ _ (ne_of e h (by intro z; cases z; exact n rfl)) e⟩
theorem KpT.free {H H' : Hp} {a : Addr} (h : H a = none) (k : KeepBut a H H') : KpT H H' := KpT.of_same fun b o e => k b o (ne_of_none e h) e
theorem KpT.sq {K : PySem.W.Frag} {H H' : Hp} {p : Addr} {xs : List V} (k : KpT H H') (h : SqT K H p xs) : SqT K H' p xs := by
  rcases h with (h | ⟨o, h⟩) | h
  · exact .inl (.inl (k.t _ _ h))
  · exact .inl (.inr ⟨o, k.f _ _ _ h⟩)
  · exact .inr h
/-! ### statements -/
def RowsOk (am lv : Nat) (rows : List Str) : Prop := 1 ≤ am ∧ am ≤ 40 ∧ 1 ≤ lv ∧ lv ≤ 5 ∧ 1 ≤ rows.length ∧ rows.length ≤ 2 * am ∧ ∀ r ∈ rows, r.length ≤ 200 + 2 * lv ∧ AlnT r
/-- what is told of a statement: the number of its kind, amount, level, rows -/
structure Sd where
  k : Nat
  am : Nat
  lv : Nat
  rows : List Str
/-- a statement at p, its bodies bs and os -/
def StAt (K : PySem.W.Frag) (A : Ads) (H : Hp) (p : Addr) (d : Sd) (bs os : List Addr) : Prop := ∃ (C dx : Addr) (fs : List (Str × V)) (ps pr pb po : Addr), A.fam[d.k]? = some C ∧ H p = some (.ins C dx fs) ∧ fs.lookup ("size" : Str) = some (.ref ps) ∧ H ps = some (.tup [.int d.am, .int d.lv]) ∧
  fs.lookup ("rows" : Str) = some (.ref pr) ∧ H pr = some (.tup (d.rows.map V.str)) ∧ fs.lookup ("body" : Str) = some (.ref pb) ∧ SqT K H pb (bs.map V.ref) ∧ fs.lookup ("otherwise" : Str) = some (.ref po) ∧ SqT K H po (os.map V.ref) ∧ fs.lookup ("WORD" : Str) = none ∧ RowsOk d.am d.lv d.rows
theorem StAt.mv {K : PySem.W.Frag} {A : Ads} {H H' : Hp} {p : Addr} {d : Sd} {bs os : List Addr} (h : StAt K A H p d bs os) (k : KpT H H') : StAt K A H' p d bs os := by
  obtain ⟨C, dx, fs, ps, pr, pb, po, h1, h2, h3, h4, h5, h6, h7, h8, h9, h10, h11, h12⟩ := h
  have n : fs ≠ [] := by
    intro z
    subst z
    cases h3
  exact ⟨C, dx, fs, ps, pr, pb, po, h1, k.i _ _ _ _ h2 n, h3, k.t _ _ h4, h5, k.t _ _ h6, h7, k.sq h8, h9, k.sq h10, h11, h12⟩
theorem StAt.ok {K : PySem.W.Frag} {A : Ads} {H : Hp} {p : Addr} {d : Sd} {bs os : List Addr} (h : StAt K A H p d bs os) : RowsOk d.am d.lv d.rows := by
  obtain ⟨C, dx, fs, ps, pr, pb, po, h1, h2, h3, h4, h5, h6, h7, h8, h9, h10, h11, h12⟩ := h
  exact h12
/-- parts: some statements -/
def PartsAt (K : PySem.W.Frag) (A : Ads) (H : Hp) (qs : List (Addr × Sd)) : Prop := ∀ q ∈ qs, ∃ bs os, StAt K A H q.1 q.2 bs os
theorem PartsAt.mv {K : PySem.W.Frag} {A : Ads} {H H' : Hp} {qs : List (Addr × Sd)} (h : PartsAt K A H qs) (k : KpT H H') : PartsAt K A H' qs := fun q hq => let ⟨bs, os, h⟩ := h q hq; ⟨bs, os, h.mv k⟩
def refsOf (qs : List (Addr × Sd)) : List V := qs.map fun q => V.ref q.1
def flatR (qs : List (Addr × Sd)) : List Str := qs.flatMap fun q => q.2.rows
def ind (rs : List Str) : List Str := rs.map fun r => "  " ++ r
def sumA (qs : List (Addr × Sd)) : Nat := (qs.map fun q => q.2.am).sum
def maxL (qs : List (Addr × Sd)) : Nat := (qs.map fun q => q.2.lv).foldr max 0
/-- the rows of a statement by its first line and its bodies -/
def rowsOf (line : Str) (bs os : List (Addr × Sd)) : List Str := line :: (ind (flatR bs) ++ (if os = [] then [] else ("else" : Str) :: ind (flatR os)))
theorem flatR_len {K : PySem.W.Frag} {A : Ads} {H : Hp} : ∀ {qs : List (Addr × Sd)}, PartsAt K A H qs → (flatR qs).length ≤ 2 * sumA qs
  | [], _ => Nat.le_refl _
  | q :: qs, h => by
    have h1 := flatR_len (qs := qs) fun x hx => h x (List.mem_cons_of_mem _ hx)
    obtain ⟨bs, os, hq⟩ := h q List.mem_cons_self
    obtain ⟨_, _, _, _, _, h2, _⟩ := hq.ok
    have e1 : flatR (q :: qs) = q.2.rows ++ flatR qs := rfl
    have e2 : sumA (q :: qs) = q.2.am + sumA qs := by simp [sumA]
    rw [e1, e2, List.length_append]
    omega
theorem flatR_row {K : PySem.W.Frag} {A : Ads} {H : Hp} : ∀ {qs : List (Addr × Sd)}, PartsAt K A H qs → ∀ r ∈ flatR qs, r.length ≤ 200 + 2 * maxL qs ∧ AlnT r
  | [], _ => fun r h => (List.not_mem_nil h).elim
  | q :: qs, h => by
    intro r hr
    have h1 := flatR_row (qs := qs) fun x hx => h x (List.mem_cons_of_mem _ hx)
    obtain ⟨bs, os, hq⟩ := h q List.mem_cons_self
    obtain ⟨_, _, _, _, _, _, h2⟩ := hq.ok
    have e2 : maxL (q :: qs) = max q.2.lv (maxL qs) := rfl
    rw [e2]
    rcases List.mem_append.mp (show r ∈ q.2.rows ++ flatR qs from hr) with hr | hr
    · have := h2 r hr
      exact ⟨by omega, this.2⟩
    · have := h1 r hr
      exact ⟨by omega, this.2⟩
theorem len_sumA {K : PySem.W.Frag} {A : Ads} {H : Hp} : ∀ {qs : List (Addr × Sd)}, PartsAt K A H qs → qs.length ≤ sumA qs
  | [], _ => Nat.le_refl _
  | q :: qs, h => by
    have h1 := len_sumA (qs := qs) fun x hx => h x (List.mem_cons_of_mem _ hx)
    obtain ⟨bs, os, hq⟩ := h q List.mem_cons_self
    obtain ⟨h2, _⟩ := hq.ok
    have e2 : sumA (q :: qs) = q.2.am + sumA qs := by simp [sumA]
    rw [e2, List.length_cons]
    omega
theorem sumA_app (a b : List (Addr × Sd)) : sumA (a ++ b) = sumA a + sumA b := by simp [sumA]
theorem maxL_app : ∀ a b : List (Addr × Sd), maxL (a ++ b) = max (maxL a) (maxL b)
  | [], b => by simp [maxL]
  | q :: a, b => by
    have := maxL_app a b
    have e1 : maxL (q :: a ++ b) = max q.2.lv (maxL (a ++ b)) := rfl
    have e2 : maxL (q :: a) = max q.2.lv (maxL a) := rfl
    rw [e1, e2, this]
    omega
theorem maxL_mem : ∀ qs : List (Addr × Sd), (∀ q ∈ qs, q.2.lv ≤ maxL qs) ∧ (qs ≠ [] → ∃ q ∈ qs, q.2.lv = maxL qs)
  | [] => ⟨fun q h => (List.not_mem_nil h).elim, fun n => absurd rfl n⟩
  | q :: qs => by
    obtain ⟨h1, h2⟩ := maxL_mem qs
    have e : maxL (q :: qs) = max q.2.lv (maxL qs) := rfl
    constructor
    · intro x hx
      rw [e]
      rcases List.mem_cons.mp hx with rfl | hx
      · omega
      · have := h1 x hx
        omega
    · intro _
      rw [e]
      by_cases hq : qs = []
      · subst hq
        exact ⟨q, List.mem_cons_self, by simp [maxL]⟩
      · obtain ⟨x, hx, ex⟩ := h2 hq
        by_cases hle : q.2.lv ≤ maxL qs
        · exact ⟨x, List.mem_cons_of_mem _ hx, by omega⟩
        · exact ⟨q, List.mem_cons_self, by omega⟩
theorem aln_app {x y : Str} (hx : AlnT x) (hy : AlnT y) : AlnT (x ++ y) := by
  intro c hc
  have hc : c ∈ (x ++ y).cps.toList := hc
  rw [cps_app] at hc
  exact (List.mem_append.mp hc).elim (hx c) (hy c)
theorem aln_by {x : Str} (h : x.cps.toList.all Aln = true) : AlnT x := fun c hc => List.all_eq_true.mp h c hc
theorem AlnT.asc {x : Str} (h : AlnT x) : Asc x := fun c hc => aln_lt (h c hc)
theorem asc_sp {r : Str} (h : AlnT r) : AlnT ("  " ++ r) := aln_app (aln_by (by decide +kernel)) h
theorem emp_app (x : Str) : Str.empty ++ x = x := by
  have : (Str.empty ++ x).cps = x.cps := by
    apply Array.ext'
    rw [cps_app]
    rfl
  cases x
  exact congrArg Str.mk this
theorem rowsOf_ok {K : PySem.W.Frag} {A : Ads} {H : Hp} {line : Str} {bs os : List (Addr × Sd)} (hl : line.length ≤ 200) (ha : AlnT line) (hb : PartsAt K A H bs) (ho : PartsAt K A H os) (h40 : sumA bs + sumA os ≤ 39) (h5 : maxL (bs ++ os) ≤ 4) :
    RowsOk (1 + (sumA bs + sumA os)) (1 + maxL (bs ++ os)) (rowsOf line bs os) := by
  have b1 := flatR_len hb
  have o1 := flatR_len ho
  have b2 := flatR_row hb
  have o2 := flatR_row ho
  rw [maxL_app] at h5 ⊢
  have ip : ∀ (rs : List Str) (n : Nat), (∀ r ∈ rs, r.length ≤ n ∧ AlnT r) → ∀ r ∈ ind rs, r.length ≤ n + 2 ∧ AlnT r := by
    intro rs n h r hr
    obtain ⟨x, hx, rfl⟩ := List.mem_map.mp hr
    refine ⟨?_, asc_sp (h x hx).2⟩
    rw [app_length]
    have := (h x hx).1
    have e : ("  " : Str).length = 2 := rfl
    omega
  refine ⟨by omega, by omega, by omega, by omega, ?_, ?_, ?_⟩
  · unfold rowsOf
    rw [List.length_cons]
    omega
  · unfold rowsOf ind
    by_cases e : os = []
    · rw [if_pos e, List.length_cons, List.length_append, List.length_map]
      simp
      omega
    · rw [if_neg e, List.length_cons, List.length_append, List.length_map, List.length_cons, List.length_map]
      have : 1 ≤ os.length := by
        cases os with
        | nil => exact absurd rfl e
        | cons a l => simp
      have := len_sumA ho
      omega
  · intro r hr
    rcases List.mem_cons.mp (show r ∈ line :: _ from hr) with rfl | hr
    · exact ⟨by omega, ha⟩
    · rcases List.mem_append.mp hr with hr | hr
      · have := ip _ _ b2 r hr
        exact ⟨by omega, this.2⟩
      · by_cases e : os = []
        · rw [if_pos e] at hr
          exact (List.not_mem_nil hr).elim
        · rw [if_neg e] at hr
          rcases List.mem_cons.mp hr with rfl | hr
          · refine ⟨?_, aln_by (by decide +kernel)⟩
            show 4 ≤ _
            omega
          · have := ip _ _ o2 r hr
            exact ⟨by omega, this.2⟩
section
variable {w : World} {K : PySem.W.Frag} {mg : Str → Option Value} {base : Heap} {A : Ads}
def spGet (K : PySem.W.Frag) (A : Ads) (f : Sd → Nat) : Sp := fun vs H Q _ => ∃ p d bs os, vs = [.ref p] ∧ StAt K A H p d bs os ∧ Q (.int (f d : Nat)) H
theorem ok_Statement_amount (T : Txt K mg A) : FnOk P w K mg base CX0 1 A.a_Statement_amount A.d_Statement_amount ["self"] (spGet K A Sd.am) := by
  have nd := sc_Statement_amount.nd
  refine T.f_Statement_amount.ok sc_Statement_amount (fun vs H Q E h => ?_) (fun cdv A' outer s H vs Q E hr h => ?_)
  · obtain ⟨p, d, bs, os, rfl, _⟩ := h
    rfl
  · obtain ⟨p, d, bs, os, rfl, ⟨C, dx, fs, ps, pr, pb, po, h1, h2, h3, h4, h5, h6, h7, h8, h9, h10, h11, h12⟩, k⟩ := h
    have fc := T.fam C (List.mem_of_getElem? h1)
    refine ⟨_, (pss_one (ps_ret (pe_ix ix_tup (pe_fld (pv 0) rfl) pe_int (fun _ _ => rfl)))), ?_⟩
    exact ⟨_, rfl, p, C, dx, fs, _, rfl, h2, fc.cl, fc.na _ (by decide +kernel), h3, ps, _, _, _, rfl, rfl, SqT.of h4, atI_nat (j := 0) rfl, k⟩
theorem ok_Statement_level (T : Txt K mg A) : FnOk P w K mg base CX0 1 A.a_Statement_level A.d_Statement_level ["self"] (spGet K A Sd.lv) := by
  have nd := sc_Statement_level.nd
  refine T.f_Statement_level.ok sc_Statement_level (fun vs H Q E h => ?_) (fun cdv A' outer s H vs Q E hr h => ?_)
  · obtain ⟨p, d, bs, os, rfl, _⟩ := h
    rfl
  · obtain ⟨p, d, bs, os, rfl, ⟨C, dx, fs, ps, pr, pb, po, h1, h2, h3, h4, h5, h6, h7, h8, h9, h10, h11, h12⟩, k⟩ := h
    have fc := T.fam C (List.mem_of_getElem? h1)
    refine ⟨_, (pss_one (ps_ret (pe_ix ix_tup (pe_fld (pv 0) rfl) pe_int (fun _ _ => rfl)))), ?_⟩
    exact ⟨_, rfl, p, C, dx, fs, _, rfl, h2, fc.cl, fc.na _ (by decide +kernel), h3, ps, _, _, _, rfl, rfl, SqT.of h4, atI_nat (j := 1) rfl, k⟩
def spIndent (K : PySem.W.Frag) (A : Ads) : Sp := fun vs H Q _ => ∃ (pb : Addr) (qs : List (Addr × Sd)), vs = [.ref pb] ∧ SqT K H pb (refsOf qs) ∧ PartsAt K A H qs ∧ sumA qs ≤ 40 ∧ maxL qs ≤ 5 ∧
  ∀ (l : Addr) (H' : Hp), H l = none → Same H H' → H' l = some (.lst ((ind (flatR qs)).map V.str)) → Q (.ref l) H'
theorem ok_indented (T : Txt K mg A) : FnOk P w K mg base CX0 1 A.a_indented A.d_indented ["body"] (spIndent K A) := by
  have nd := sc_indented.nd
  refine T.f_indented.ok sc_indented (fun vs H Q E h => ?_) (fun cdv A' outer s H vs Q E hr h => ?_)
  · obtain ⟨p, qs, rfl, _⟩ := h
    rfl
  · obtain ⟨pb, qs, rfl, hb, hp, h40, h5, k⟩ := h
    have flen := flatR_len hp
    have frow := flatR_row hp
    have same_sq : ∀ {H2 : Hp}, Same H H2 → SqT K H2 pb (refsOf qs) := fun e => (KpT.of_same e).sq hb
    refine ⟨_, (pss_one (ps_ret (pe_lc2 (own := [("part", 1), ("row", 2)]) (vs1 := [2]) (g := gName 1) (g1 := gName 2) (tt := tYes) (tt1 := tYes) rfl nd (pi_tup (pv 0)) (blkOk_by (N := nm_indented) (sc := defScope st_indented) (by decide +kernel)) (by decide) (fun _ _ _ _ _ => (pg_name (i := 1) nd rfl (Or.inl rfl))) (fun _ _ _ _ _ => pts_nil) (fun _ _ _ _ _ => (show PI _ _ _ (iTup K _) from pi_tup (show PE _ _ (tFld K _ _) from pe_fld (pv 1) rfl))) (fun _ _ _ _ _ => (pg_name (i := 2) nd rfl (Or.inl rfl))) (fun _ _ _ _ _ => pts_nil) (fun _ _ _ _ _ => (pe_fs (.cons pe_str (.cons (pe_fmt (pv 2)) .nil))))))), ?_⟩
    refine ⟨_, rfl, pb, rfl, ⟨_, hb⟩, fun D hD => out_it (walk_tup (K := K) (a := pb) (xs := refsOf qs)) (fun i H2 => i ≤ qs.length ∧ Same H H2 ∧ H2 D = some (.lst ((ind (flatR (qs.take i))).map V.str))) ⟨Nat.zero_le _, same_new hD, upd_same⟩ (fun i H2 _ h => same_sq h.2.1) ?_ ?_⟩
    · rintro i x H1 H2 hi ⟨hle, sm, hdd⟩ ⟨rfl, hx⟩
      have hx : (qs.map fun q => V.ref q.1)[i]? = some x := hx
      rw [List.getElem?_map] at hx
      obtain ⟨q, hq, rfl⟩ := Option.map_eq_some_iff.mp hx
      have hil : i < qs.length := (List.getElem?_eq_some_iff.mp hq).1
      obtain ⟨bs, os, st⟩ := hp q (List.mem_of_getElem? hq)
      have ro := st.ok
      obtain ⟨C, dx, fs, ps, pr, pb2, po, h1, h2, h3, h4, h5', h6, h7, h8, h9, h10, h11, h12⟩ := st
      have fc := T.fam C (List.mem_of_getElem? h1)
      have tk : flatR (qs.take (i + 1)) = flatR (qs.take i) ++ q.2.rows := by
        rw [List.take_add_one, hq]
        simp [flatR]
      have tkl : (flatR (qs.take i)).length ≤ (flatR qs).length := by
        have e : flatR qs = flatR (qs.take i) ++ flatR (qs.drop i) := by
          unfold flatR
          rw [← List.flatMap_append, List.take_append_drop]
        rw [e, List.length_append]
        omega
      refine ⟨rfl, _, rfl, q.1, C, dx, fs, _, rfl, sm _ _ h2, fc.cl, fc.na _ (by decide +kernel), h5', pr, rfl, ⟨_, SqT.of (sm _ _ h6)⟩, ?_⟩
      refine in_it (walk_tup (K := K) (a := pr) (xs := q.2.rows.map V.str)) (g := gName 2) (tt := tYes) (vs := [2]) (D := D) (fun j H3 => Same H H3 ∧ H3 D = some (.lst ((ind (flatR (qs.take i) ++ q.2.rows.take j)).map V.str))) ⟨sm, ?_⟩ (fun j H3 _ h => SqT.of (h.1 _ _ h6)) ?_ ?_
      · rw [hdd]
        simp
      · rintro j y H3 H4 hj ⟨sm3, hd3⟩ ⟨rfl, hy⟩
        rw [List.getElem?_map] at hy
        obtain ⟨r, hr', rfl⟩ := Option.map_eq_some_iff.mp hy
        have rl := (ro.2.2.2.2.2.2 r (List.mem_of_getElem? hr')).1
        have lv5 := ro.2.2.2.1
        have rl2 : r.length ≤ sizeLine := len5000 (by omega)
        have e2 : (Str.empty ++ ("  " : Str) ++ r) = "  " ++ r := by rw [emp_app]
        refine ⟨rfl, "  ", rfl, by decide, _, rfl, Or.inl ⟨r, rfl, rl2, r, rfl, ?_, _, hd3, ?_, ?_, ?_⟩⟩
        · rw [e2, app_length]
          show 2 + r.length ≤ sizeLine
          exact len5000 (by omega)
        · rw [List.length_map]
          unfold ind
          rw [List.length_map, List.length_append, List.length_take]
          have : q.2.rows.length ≤ 80 := by
            have := ro.2.2.2.2.2.1
            have := ro.2.1
            omega
          exact lt5000 (by omega)
        · intro b o e
          rw [upd_ne (ne_of_none e hD)]
          exact sm3 _ _ e
        · rw [upd_same, e2, List.take_add_one, hr']
          simp [ind]
      · rintro H3 ⟨sm3, hd3⟩
        refine ⟨hil, sm3, ?_⟩
        rw [hd3, tk]
        simp
    · rintro H2 ⟨_, sm, hdd⟩
      refine k D H2 hD sm ?_
      rw [hdd, List.take_of_length_le (by simp [refsOf])]
end
end K04
set_option Elab.async false
set_option linter.all false
set_option maxRecDepth 100000
set_option maxHeartbeats 4000000
namespace K04
open PySem PySem.Spec PyProof.Rows L2 Mo
theorem catX_ok {K : PySem.W.Frag} {H : Hp} {a b : Addr} {xs ys : List V} {Q : VK} (ha : SqT K H a xs) (hb : SqT K H b ys) (hz : xs.length + ys.length ≤ sizeLine) (q : ∀ p H', Same H H' → SqT K H' p (xs ++ ys) → Q (.ref p) H') : rCatX K (.ref a) (.ref b) H Q := by
  refine ⟨a, b, xs, ys, rfl, rfl, ha, hb, hz, fun e => ?_, fun e => ?_, fun p ob hd hp => ?_⟩
  · subst e
    exact q b H (Same.refl H) hb
  · subst e
    refine q a H (Same.refl H) ?_
    rw [List.append_nil]
    exact ha
  · exact q p _ (same_new hp) (.inl (.inr ⟨ob, upd_same⟩))
theorem refs_app (a b : List (Addr × Sd)) : refsOf a ++ refsOf b = refsOf (a ++ b) := by simp [refsOf]
theorem PartsAt.app {K : PySem.W.Frag} {A : Ads} {H : Hp} {a b : List (Addr × Sd)} (ha : PartsAt K A H a) (hb : PartsAt K A H b) : PartsAt K A H (a ++ b) := fun q hq => (List.mem_append.mp hq).elim (ha q) (hb q)
section
variable {w : World} {K : PySem.W.Frag} {mg : Str → Option Value} {base : Heap} {A : Ads}
/-- a comprehension over parts that tells a number of each -/
theorem nums_lc {H : Hp} {pi : Addr} {qs : List (Addr × Sd)} {f : Sd → Nat} {vs : List Nat} {σ : L2.St} {D : Addr} {Qd : Hp → Prop} {te : TE} (hs : SqT K H pi (refsOf qs)) (hD : H D = none) (hlen : qs.length ≤ 100) {i8 : Nat}
    (ht : ∀ (j : Nat) (q : Addr × Sd) (H2 : Hp) (R : VK), Same H H2 → qs[j]? = some q → R (.int (f q.2 : Nat)) H2 → te ((wipe σ vs).set i8 (some (.ref q.1))) H2 R) (hw : ∀ x, wipe ((wipe σ vs).set i8 x) vs = wipe σ vs)
    (hq : ∀ H2, Same H H2 → H2 D = some (.lst ((qs.map fun q => ((f q.2 : Nat) : Int)).map V.int)) → Qd H2) :
    ∃ W : Nat → Nat → Hp → Prop, (∃ m, W 0 m (upd H D (.lst []))) ∧ ∀ i m H, W i m H →
      ((Itt K pi).stop i H ∧ Qd H) ∨ ((Itt K pi).go i H ∧ ∃ Nx : Hp → Prop, (∀ H', Nx H' → ∃ m', m' < m ∧ W (i + 1) m' H') ∧ ∀ x H', (Itt K pi).yld i H x H' → gName i8 x (wipe σ vs) H' fun σ2 H2 => wipe σ2 vs = wipe σ vs ∧ tYes σ2 H2 fun b H3 =>
        if b = true then te σ2 H3 fun y H4 => ∃ acc, H4 D = some (.lst acc) ∧ acc.length < sizeLine ∧ Nx (upd H4 D (.lst (acc ++ [y]))) else Nx H3) := by
  refine lc_it (walk_tup (K := K) (a := pi) (xs := refsOf qs)) (g := gName i8) (tt := tYes) (te := te) (fun i H2 => Same H H2 ∧ H2 D = some (.lst (((qs.take i).map fun q => ((f q.2 : Nat) : Int)).map V.int))) ⟨same_new hD, upd_same⟩ (fun i H2 _ h => (KpT.of_same h.1).sq hs) ?_ ?_
  · rintro i x H1 H2 hi ⟨sm, hd⟩ ⟨rfl, hx⟩
    have hx : (qs.map fun q => V.ref q.1)[i]? = some x := hx
    rw [List.getElem?_map] at hx
    obtain ⟨q, hq', rfl⟩ := Option.map_eq_some_iff.mp hx
    refine ⟨hw _, ?_⟩
    refine ht i q H2 _ sm hq' ⟨_, hd, ?_, ?_, ?_⟩
    · rw [List.length_map, List.length_map, List.length_take]
      exact lt5000 (by omega)
    · intro b o e
      rw [upd_ne (ne_of_none e hD)]
      exact sm _ _ e
    · rw [upd_same, List.take_add_one, hq']
      simp
  · rintro H2 ⟨sm, hd⟩
    refine hq H2 sm ?_
    rw [hd, List.take_of_length_le (by simp [refsOf])]
def spStInit (K : PySem.W.Frag) (A : Ads) : Sp := fun vs H Q _ => ∃ (a C dx pm pb po : Addr) (line : Str) (bs os : List (Addr × Sd)), vs = [.ref a, .str line, .ref pm, .ref pb, .ref po] ∧ C ∈ A.fam ∧ H a = some (.ins C dx []) ∧ SqT K H pb (refsOf bs) ∧ SqT K H po (refsOf os) ∧
  PartsAt K A H bs ∧ PartsAt K A H os ∧ sumA bs + sumA os ≤ 39 ∧ maxL (bs ++ os) ≤ 4 ∧ line.length ≤ 200 ∧ AlnT line ∧
  ∀ (ps pr : Addr) (H' : Hp), H' a = some (.ins C dx [("size", .ref ps), ("mentioned", .ref pm), ("body", .ref pb), ("otherwise", .ref po), ("cell", .non), ("into", .non), ("rows", .ref pr)]) → H' ps = some (.tup [.int (1 + (sumA bs + sumA os) : Nat), .int (1 + maxL (bs ++ os) : Nat)]) →
    H' pr = some (.tup ((rowsOf line bs os).map V.str)) → KeepBut a H H' → Q .non H'
theorem ok_Statement___init__ (T : Txt K mg A) : FnOk P w K mg base CX0 3 A.a_Statement___init__ A.d_Statement___init__ ["self", "line", "mentioned", "body", "otherwise"] (spStInit K A) := by
  have nd := sc_Statement___init__.nd
  refine T.f_Statement___init__.ok sc_Statement___init__ (fun vs H Q E h => ?_) (fun cdv A' outer s H vs Q E hr h => ?_)
  · obtain ⟨a, C, dx, pm, pb, po, line, bs, os, rfl, _⟩ := h
    rfl
  · obtain ⟨a, C, dx, pm, pb, po, line, bs, os, rfl, hC, ha, hb, ho, pbs, pos, h39, h4, ll, la, k⟩ := h
    have fc := T.fam C hC
    have pin := pbs.app pos
    have lin := len_sumA pin
    rw [sumA_app] at lin
    have lbs : bs.length ≤ 39 := by have := len_sumA pbs; omega
    have los : os.length ≤ 39 := by have := len_sumA pos; omega
    have flb := flatR_len pbs
    have flo := flatR_len pos
    have tail : ∃ t, PSs (cxOf CX0 P w K mg base nm_Statement___init__ "Statement.__init__" (defScope st_Statement___init__) A.a_Statement___init__ cdv A' outer s H E).nox ((defBody st_Statement___init__).drop 3) t ∧
        ∀ (pi : Addr) (H1 : Hp), Same H H1 → t { nx := fun _ H' => Q .non H', rt := Q } [some (.ref a), some (.str line), some (.ref pm), some (.ref pb), some (.ref po), some (.ref pi), some (.int (1 + ((sumA bs + sumA os : Nat) : Int))), some (.int (1 + ((maxL (bs ++ os) : Nat) : Int))), none] H1 := by
      refine ⟨_, (pss_cons (ps_if (pt_cmpR op_gt (pv 6) (pe_gI T.c_MAX_STATEMENTS) (nomark _)) (pss_one ps_never) pss_nil)
      (pss_cons (ps_if (pt_cmpR op_gt (pv 7) (pe_gI T.c_MAX_LEVEL) (nomark _)) (pss_one ps_never) pss_nil)
      (pss_cons (ps_fld (pv 0) (pe_tup (pa_cons (pv 6) (pa_cons (pv 7) pa_nil))) rfl)
      (pss_cons (ps_fld (pv 0) (pv 2) rfl)
      (pss_cons (ps_fld (pv 0) (pv 3) rfl)
      (pss_cons (ps_fld (pv 0) (pv 4) rfl)
      (pss_cons (ps_fld (pv 0) pe_non rfl)
      (pss_cons (ps_fld (pv 0) pe_non rfl)
      (pss_one (ps_fld (pv 0) (pe_tup (pa_cons (pv 1) (pa_star (pe_call (ok_indented T) (hr.mono (by decide)) (by rfl) T.m_indented T.k_indented T.v_indented .nil pass0 (pa_cons (pv 3) pa_nil)) (pa_star (pe_ifExp (pt_truth (pv 4) (by intro _; rfl)) (pe_tup (pa_cons pe_str (pa_star (pe_call (ok_indented T) (hr.mono (by decide)) (by rfl) T.m_indented T.k_indented T.v_indented .nil pass0 (pa_cons (pv 4) pa_nil)) pa_nil))) (pe_tup pa_nil)) pa_nil)))) rfl)))))))))), fun pi H1 s1 => ?_⟩
      refine ⟨_, rfl, _, _, rfl, rfl, _, rfl, ?_⟩
      refine ite2 (fun h => absurd (of_decide_eq_true h) (by omega)) (fun _ => ?_)
      refine ⟨_, rfl, _, _, rfl, rfl, _, rfl, ?_⟩
      refine ite2 (fun h => absurd (of_decide_eq_true h) (by omega)) (fun _ => ?_)
      have na : ∀ f ∈ famAttrs, NoAttr K C f := fc.na
      refine ⟨_, rfl, _, rfl, (by show 2 ≤ sizeLine; decide), fun ps hps => ?_⟩
      have s2 := s1.trans (same_new (o := .tup [.int (1 + ((sumA bs + sumA os : Nat) : Int)), .int (1 + ((maxL (bs ++ os) : Nat) : Int))]) hps)
      have npa : ps ≠ a := (ne_of_none (s1 _ _ ha) hps).symm
      refine ⟨_, rfl, a, C, dx, [], rfl, s2 _ _ ha, fc.cl, na _ (by decide +kernel), (by show 0 < 1000; decide), ?_⟩
      refine ⟨_, rfl, _, rfl, a, C, dx, _, rfl, upd_same, fc.cl, na _ (by decide +kernel), (by show 1 < 1000; decide), ?_⟩
      refine ⟨_, rfl, _, rfl, a, C, dx, _, rfl, upd_same, fc.cl, na _ (by decide +kernel), (by show 2 < 1000; decide), ?_⟩
      refine ⟨_, rfl, _, rfl, a, C, dx, _, rfl, upd_same, fc.cl, na _ (by decide +kernel), (by show 3 < 1000; decide), ?_⟩
      refine ⟨_, rfl, a, C, dx, _, rfl, upd_same, fc.cl, na _ (by decide +kernel), (by show 4 < 1000; decide), ?_⟩
      refine ⟨_, rfl, a, C, dx, _, rfl, upd_same, fc.cl, na _ (by decide +kernel), (by show 5 < 1000; decide), ?_⟩
      have fin : ∀ Hx : Hp, Hx a = some (.ins C dx [("size", .ref ps), ("mentioned", .ref pm), ("body", .ref pb), ("otherwise", .ref po), ("cell", .non), ("into", .non)]) → KeepBut a H Hx → Hx ps = some (.tup [.int (1 + ((sumA bs + sumA os : Nat) : Int)), .int (1 + ((maxL (bs ++ os) : Nat) : Int))]) →
          sFld K (tVar 0) (tTup (tCons (tVar 1) (tStar K (tCall (spIndent K A) [] E0 (tCons (tVar 3) tNil)) (tStar K (tIf (fun σ H_1 Q => tVar 4 σ H_1 fun x H' => ∃ k, TruV K x H' k ∧ Q k H') (tTup (tCons (tC (V.str "else")) (tStar K (tCall (spIndent K A) [] E0 (tCons (tVar 4) tNil)) tNil))) (tTup tNil)) tNil)))) "rows"
            { nx := fun _ H' => Q .non H', rt := Q } [some (.ref a), some (.str line), some (.ref pm), some (.ref pb), some (.ref po), some (.ref pi), some (.int (1 + ((sumA bs + sumA os : Nat) : Int))), some (.int (1 + ((maxL (bs ++ os) : Nat) : Int))), none] Hx := by
        intro Hx hxa kb hxs
        have kp : KpT H Hx := KpT.new ha kb
        have mb := maxL_app bs os
        refine ⟨_, rfl, _, rfl, pb, bs, rfl, kp.sq hb, pbs.mv kp, by omega, by omega, fun l H2 hl s2 h2 => ?_⟩
        refine ⟨l, _, rfl, .inr (SqL.of h2), _, rfl, !(refsOf os).isEmpty, .inr (.inl ⟨_, (kp.trans (KpT.of_same s2)).sq ho, rfl⟩), ?_⟩
        -- the end, once the rows are there
        have last : ∀ (xs : List V) (H3 : Hp), Same H2 H3 → xs = (rowsOf line bs os).map V.str → xs.length ≤ sizeLine ∧ ∀ p, H3 p = none → (tVar 0) [some (.ref a), some (.str line), some (.ref pm), some (.ref pb), some (.ref po), some (.ref pi), some (.int (1 + ((sumA bs + sumA os : Nat) : Int))), some (.int (1 + ((maxL (bs ++ os) : Nat) : Int))), none] (upd H3 p (.tup xs))
            fun x H4 => ∃ a C dx fs, x = .ref a ∧ H4 a = some (.ins C dx fs) ∧ Cls K C ∧ NoAttr K C "rows" ∧ fs.length < 1000 ∧ Q .non (upd H4 a (.ins C dx (putF "rows" (.ref p) fs))) := by
          rintro xs H3 s3 rfl
          have ro := rowsOf_ok ll la pbs pos h39 h4
          refine ⟨?_, fun p hp => ?_⟩
          · rw [List.length_map]
            exact len5000 (by have := ro.2.2.2.2.2.1; omega)
          · have hp2 : Hx p = none := (s2.trans s3).free hp
            have nap : a ≠ p := ne_of_none ((s2.trans s3) _ _ hxa) hp
            have nps : ps ≠ p := ne_of_none ((s2.trans s3) _ _ hxs) hp
            have s4 := (s2.trans s3).trans (same_new (o := .tup ((rowsOf line bs os).map V.str)) hp)
            refine ⟨_, rfl, a, C, dx, _, rfl, s4 _ _ hxa, fc.cl, fc.na _ (by decide +kernel), (by show 6 < 1000; decide), ?_⟩
            refine k ps p _ upd_same ?_ ?_ ?_
            · rw [upd_ne npa, s4 _ _ hxs]
              congr 4 <;> simp
            · rw [upd_ne nap.symm, upd_same]
            · intro b o nb e
              rw [upd_ne nb]
              exact s4 _ _ (kb _ _ nb e)
        by_cases e : os = []
        · subst e
          refine (if_neg (by decide)).mpr ?_
          refine ⟨by decide, fun p2 hp2 => ⟨p2, [], rfl, .inl (SqT.of upd_same), ?_⟩⟩
          exact last _ _ (same_new (o := .tup []) hp2) (by simp [rowsOf])
        · have ne : (!(refsOf os).isEmpty) = true := by
            cases os with
            | nil => exact absurd rfl e
            | cons q l => rfl
          rw [ne]
          refine (if_pos rfl).mpr ?_
          refine ⟨_, rfl, po, os, rfl, (kp.trans (KpT.of_same s2)).sq ho, pos.mv (kp.trans (KpT.of_same s2)), by omega, by omega, fun l2 H3 hl2 s3 h3 => ?_⟩
          refine ⟨l2, _, rfl, .inr (SqL.of h3), ?_, fun p2 hp2 => ⟨p2, _, rfl, .inl (SqT.of upd_same), ?_⟩⟩
          · rw [List.append_nil, List.length_cons, List.length_map]
            unfold ind
            rw [List.length_map]
            exact len5000 (by omega)
          · exact last _ _ (s3.trans (same_new hp2)) (by simp [rowsOf, e])
      refine fin _ upd_same ?_ ?_
      · intro b o nb e
        rw [upd_ne nb, upd_ne nb, upd_ne nb, upd_ne nb, upd_ne nb, upd_ne nb]
        exact s2 _ _ e
      · rw [upd_ne npa, upd_ne npa, upd_ne npa, upd_ne npa, upd_ne npa, upd_ne npa, upd_same]
    obtain ⟨t3, D3, rest3⟩ := tail
    refine ⟨_, (pss_cons (ps_set (i := 5) nd rfl (Or.inl rfl) (pe_op op_catX (pv 3) (pv 4)))
      (pss_cons (ps_set (i := 6) nd rfl (Or.inl rfl) (pe_op op_add pe_int (pe_callB (cr_sum rfl) (by rfl) T.b_sum (by decide +kernel) (pa_cons (pe_lc (own := [("part", 8)]) (g := gName 8) (tt := tYes) rfl nd (pi_tup (pv 5)) (blkOk_by (N := nm_Statement___init__) (sc := defScope st_Statement___init__) (by decide +kernel)) (fun _ _ _ _ _ => (pg_name (i := 8) nd rfl (Or.inl rfl))) (fun _ _ _ _ _ => pts_nil) (fun _ _ _ _ _ => (pe_propF (pv 8) T.pr_Statement_amount (ok_Statement_amount T) (hr.mono (by decide)) T.v_Statement_amount pass0))) pa_nil))))
      (pss_cons (ps_set (i := 7) nd rfl (Or.inl rfl) (pe_op op_add pe_int (pe_callBK (cr_maxDf rfl) (by rfl) T.b_max (by decide +kernel) (pa_cons (pe_lc (own := [("part", 8)]) (g := gName 8) (tt := tYes) rfl nd (pi_tup (pv 5)) (blkOk_by (N := nm_Statement___init__) (sc := defScope st_Statement___init__) (by decide +kernel)) (fun _ _ _ _ _ => (pg_name (i := 8) nd rfl (Or.inl rfl))) (fun _ _ _ _ _ => pts_nil) (fun _ _ _ _ _ => (pe_propF (pv 8) T.pr_Statement_level (ok_Statement_level T) (hr.mono (by decide)) T.v_Statement_level pass0))) pa_nil) (pk_cons pe_int pk_nil))))
      D3))), ?_⟩
    refine ⟨_, rfl, _, rfl, catX_ok hb ho ?_ fun pi H1 s1 hi => ?_⟩
    · simp only [refsOf, List.length_map]
      exact len5000 (by omega)
    rw [refs_app] at hi
    refine ⟨_, rfl, pi, rfl, ⟨_, hi⟩, fun D hD => nums_lc (f := Sd.am) hi hD (by omega) (i8 := 8) (fun j q H2 R s2 hq r => ?_) (fun _ => rfl) fun H2 s2 hd => ?_⟩
    · obtain ⟨b1, o1, st⟩ := (pin.mv (KpT.of_same (s1.trans s2))) q (List.mem_of_getElem? hq)
      have st' := st
      obtain ⟨C1, dx1, fs1, ps1, pr1, pb1, po1, g1, g2, g3, g4, g5, g6, g7, g8, g9, g10, g11, g12⟩ := st
      exact ⟨_, rfl, q.1, C1, dx1, fs1, rfl, List.mem_of_getElem? g1, g2, q.1, q.2, b1, o1, rfl, st', r⟩
    have s12 := s1.trans s2
    have e1 : ((bs ++ os).map fun q => ((q.2.am : Nat) : Int)).sum = ((sumA bs + sumA os : Nat) : Int) := by
      rw [← sumA_app]
      unfold sumA
      generalize bs ++ os = l
      induction l with
      | nil => rfl
      | cons q l ih =>
        rw [List.map_cons, List.sum_cons, ih, List.map_cons, List.sum_cons]
        omega
    refine ⟨D, _, rfl, SqL.of hd, _, _, rfl, rfl, ?_⟩
    rw [e1]
    refine ⟨_, rfl, pi, rfl, ⟨_, (KpT.of_same s2).sq hi⟩, fun D2 hD2 => nums_lc (f := Sd.lv) ((KpT.of_same s2).sq hi) hD2 (by omega) (i8 := 8) (fun j q H3 R s3 hq r => ?_) (fun _ => rfl) fun H3 s3 hd3 => ?_⟩
    · obtain ⟨b1, o1, st⟩ := (pin.mv (KpT.of_same (s12.trans s3))) q (List.mem_of_getElem? hq)
      have st' := st
      obtain ⟨C1, dx1, fs1, ps1, pr1, pb1, po1, g1, g2, g3, g4, g5, g6, g7, g8, g9, g10, g11, g12⟩ := st
      exact ⟨_, rfl, q.1, C1, dx1, fs1, rfl, List.mem_of_getElem? g1, g2, q.1, q.2, b1, o1, rfl, st', r⟩
    have s13 := s12.trans s3
    refine ⟨D2, _, _, rfl, rfl, SqL.of hd3, fun e => ?_, fun m hm hmax => ?_⟩
    · have e : bs ++ os = [] := List.map_eq_nil_iff.mp e
      have z : maxL (bs ++ os) = 0 := by rw [e]; rfl
      have r := rest3 pi H3 s13
      rw [z] at r
      exact ⟨_, _, rfl, rfl, r⟩
    · obtain ⟨q, hq, rfl⟩ := List.mem_map.mp hm
      obtain ⟨m1, m2⟩ := maxL_mem (bs ++ os)
      obtain ⟨q2, hq2, e2⟩ := m2 (List.ne_nil_of_mem hq)
      have e3 : q.2.lv = maxL (bs ++ os) := by
        have h1 := m1 q hq
        have h2 := hmax _ (List.mem_map.mpr ⟨q2, hq2, rfl⟩)
        omega
      have r := rest3 pi H3 s13
      rw [← e3] at r
      exact ⟨_, _, rfl, rfl, r⟩
end
end K04
set_option Elab.async false
set_option linter.all false
set_option maxRecDepth 100000
set_option maxHeartbeats 4000000
namespace K04
open PySem PySem.Spec PyProof.Rows L2 Mo
/-! ### rows as data -/
def rowsD (rs : List Str) : PyData := .tuple (rs.map PyData.str)
theorem plAll_strs : ∀ {l : List Str}, (∀ r ∈ l, AlnT r) → PlAll (l.map PyData.str)
  | [], _ => by
    show PlAll []
    rw [PlAll]
    trivial
  | r :: l, h => by
    show PlAll (PyData.str r :: l.map PyData.str)
    rw [PlAll, Pl]
    exact ⟨h r List.mem_cons_self, plAll_strs fun x hx => h x (List.mem_cons_of_mem _ hx)⟩
theorem pl_rows {l : List Str} (h : ∀ r ∈ l, AlnT r) : Pl (rowsD l) := by
  unfold rowsD
  rw [Pl]
  exact plAll_strs h
theorem strs_inj : ∀ {a b : List Str}, a.map PyData.str = b.map PyData.str → a = b
  | [], [], _ => rfl
  | [], _ :: _, h => by simp at h
  | _ :: _, [], h => by simp at h
  | x :: a, y :: b, h => by
    simp only [List.map_cons, List.cons.injEq, PyData.str.injEq] at h
    rw [h.1, strs_inj h.2]
theorem eqv_rows {a b : List Str} (ha : ∀ r ∈ a, AlnT r) (hb : ∀ r ∈ b, AlnT r) : PyData.eqv (rowsD a) (rowsD b) = decide (a = b) := by
  by_cases e : a = b
  · subst e
    rw [eqv_refl_plain (pl_rows ha), decide_eq_true rfl]
  · rw [decide_eq_false e]
    cases z : PyData.eqv (rowsD a) (rowsD b) with
    | false => rfl
    | true =>
      have := eqv_plain (pl_rows ha) (pl_rows hb) z
      unfold rowsD at this
      injection this with this
      exact absurd (strs_inj this) e
theorem shaped_rows {l : List Str} (h : ∀ r ∈ l, AlnT r) : SeqAt.shaped (rowsD l) = true := by
  obtain ⟨h1, h2⟩ := lay_strs fun y hy => AlnT.asc (h y hy)
  unfold SeqAt.shaped
  rw [Bool.and_eq_true]
  refine ⟨h1, decide_eq_true ?_⟩
  show PyData.depthAll (l.map PyData.str) + 1 ≤ 64
  omega
theorem RowsOk.aln {am lv : Nat} {rows : List Str} (h : RowsOk am lv rows) : ∀ r ∈ rows, AlnT r := fun r hr => (h.2.2.2.2.2.2 r hr).2
/-! ### names and operands -/
def NameT (z : Str) : Prop := isNameV (.str z) = true ∧ AlnT z ∧ z.length ≤ 8
def OperT (z : Str) : Prop := isOperV (.str z) = true ∧ AlnT z ∧ z.length ≤ 8
theorem NameT.th {z : Str} (h : NameT z) (H : Hp) : Th H (.str z) .str := .str z (by have := h.2.2; omega) (AlnT.asc h.2.1)
theorem OperT.th {z : Str} (h : OperT z) (H : Hp) : Th H (.str z) .str := .str z (by have := h.2.2; omega) (AlnT.asc h.2.1)
theorem NameT.oper {z : Str} (h : NameT z) : OperT z := by
  refine ⟨?_, h.2⟩
  have e : nameB z = true := h.1
  show (fixedB z || nameB z) = true
  rw [e, Bool.or_true]
section
variable {w : World} {K : PySem.W.Frag} {mg : Str → Option Value} {base : Heap} {A : Ads}
def spEq (K : PySem.W.Frag) (A : Ads) : Sp := fun vs H Q _ => ∃ p d bs os y, vs = [.ref p, y] ∧ StAt K A H p d bs os ∧ ((∃ q e b2 o2, y = .ref q ∧ StAt K A H q e b2 o2 ∧ Q (.bl (decide (d.rows = e.rows))) H) ∨ ∃ n, Th H y n ∧ Q (.bl false) H)
theorem ok_Statement___eq__ (T : Txt K mg A) : FnOk P w K mg base CX0 1 A.a_Statement___eq__ A.d_Statement___eq__ ["self", "other"] (spEq K A) := by
  have nd := sc_Statement___eq__.nd
  refine T.f_Statement___eq__.ok sc_Statement___eq__ (fun vs H Q E h => ?_) (fun cdv A' outer s H vs Q E hr h => ?_)
  · obtain ⟨p, d, bs, os, y, rfl, _⟩ := h
    rfl
  · obtain ⟨p, d, bs, os, y, rfl, ⟨C, dx, fs, ps, pr, pb, po, h1, h2, h3, h4, h5, h6, h7, h8, h9, h10, h11, h12⟩, h⟩ := h
    have fc := T.fam C (List.mem_of_getElem? h1)
    refine ⟨_, (pss_one (ps_ret (pe_and (pe_callB call_isi (by rfl) T.b_isinstance (by decide +kernel) (pa_cons (pv 1) (pa_cons (pe_gR T.m_Statement) pa_nil))) (pe_one (pe_cmpR (op_eqD hr.units) (pe_fld (pv 0) rfl) (pe_fld (pv 1) rfl) (nomark _)))))), ?_⟩
    rcases h with ⟨q, e, b2, o2, rfl, ⟨C', dx', fs', ps', pr', pb', po', g1, g2, g3, g4, g5, g6, g7, g8, g9, g10, g11, g12⟩, k⟩ | ⟨n, th, k⟩
    · have fc' := T.fam C' (List.mem_of_getElem? g1)
      refine ⟨_, rfl, _, _, _, _, _, rfl, .own _, fc'.ty _ _ _ _ g2, (T.sub C' (List.mem_of_getElem? g1)).2, _, rfl, ?_⟩
      refine ⟨_, rfl, p, C, dx, _, _, rfl, h2, fc.cl, fc.na _ (by decide +kernel), h5, ?_⟩
      refine ⟨_, rfl, q, C', dx', _, _, rfl, g2, fc'.cl, fc'.na _ (by decide +kernel), g5, ?_⟩
      refine ⟨rowsD d.rows, rowsD e.rows, .tup (SqT.of h6) (dp_strs _), .tup (SqT.of g6) (dp_strs _), shaped_rows h12.aln, shaped_rows g12.aln, ?_⟩
      rw [eqv_rows h12.aln g12.aln]
      exact k
    · exact ⟨_, rfl, _, _, _, _, _, rfl, .own _, th.ty, T.famB.ki7 n, _, rfl, k⟩
def spStr (K : PySem.W.Frag) (A : Ads) (f : Sd → Str) : Sp := fun vs H Q _ => ∃ p d bs os, vs = [.ref p] ∧ StAt K A H p d bs os ∧ Q (.str (f d)) H
theorem sum_len {l : List Str} {n : Nat} (h : ∀ r ∈ l, r.length ≤ n) : (l.map (·.length)).sum ≤ l.length * n := by
  induction l with
  | nil => simp
  | cons r l ih =>
    have h1 := h r List.mem_cons_self
    have h2 := ih fun x hx => h x (List.mem_cons_of_mem _ hx)
    rw [List.map_cons, List.sum_cons, List.length_cons, Nat.succ_mul]
    omega
theorem ok_Statement___str__ (T : Txt K mg A) : FnOk P w K mg base CX0 1 A.a_Statement___str__ A.d_Statement___str__ ["self"] (spStr K A fun d => Txt.join "\n" d.rows) := by
  have nd := sc_Statement___str__.nd
  refine T.f_Statement___str__.ok sc_Statement___str__ (fun vs H Q E h => ?_) (fun cdv A' outer s H vs Q E hr h => ?_)
  · obtain ⟨p, d, bs, os, rfl, _⟩ := h
    rfl
  · obtain ⟨p, d, bs, os, rfl, ⟨C, dx, fs, ps, pr, pb, po, h1, h2, h3, h4, h5, h6, h7, h8, h9, h10, h11, h12⟩, k⟩ := h
    have fc := T.fam C (List.mem_of_getElem? h1)
    refine ⟨_, (pss_one (ps_ret (pe_join pe_str (pe_fld (pv 0) rfl)))), ?_⟩
    refine ⟨⟨_, rfl⟩, _, rfl, p, C, dx, _, _, rfl, h2, fc.cl, fc.na _ (by decide +kernel), h5, "\n", pr, d.rows, rfl, rfl, .inr (SqT.of h6), ?_, k⟩
    obtain ⟨a1, a2, a3, a4, a5, a6, a7⟩ := h12
    have := sum_len (n := 210) fun r hr => by
      have := (a7 r hr).1
      omega
    have e : ("\n" : Str).length = 1 := rfl
    rw [e]
    omega
theorem ok_Statement___repr__ (T : Txt K mg A) : FnOk P w K mg base CX0 1 A.a_Statement___repr__ A.d_Statement___repr__ ["self"] (spStr K A fun d => "Statement(" ++ d.rows.headD "" ++ ")") := by
  have nd := sc_Statement___repr__.nd
  refine T.f_Statement___repr__.ok sc_Statement___repr__ (fun vs H Q E h => ?_) (fun cdv A' outer s H vs Q E hr h => ?_)
  · obtain ⟨p, d, bs, os, rfl, _⟩ := h
    rfl
  · obtain ⟨p, d, bs, os, rfl, ⟨C, dx, fs, ps, pr, pb, po, h1, h2, h3, h4, h5, h6, h7, h8, h9, h10, h11, h12⟩, k⟩ := h
    have fc := T.fam C (List.mem_of_getElem? h1)
    obtain ⟨a1, a2, a3, a4, a5, a6, a7⟩ := h12
    obtain ⟨r, rs, er⟩ : ∃ r rs, d.rows = r :: rs := by
      cases e : d.rows with
      | nil =>
        rw [e] at a5
        simp at a5
      | cons r rs => exact ⟨r, rs, rfl⟩
    have lr := (a7 r (by rw [er]; exact List.mem_cons_self)).1
    rw [er] at h6
    have k : Q (.str (("Statement(" : Str) ++ d.rows.headD "" ++ (")" : Str))) H := k
    rw [show d.rows.headD "" = r by rw [er]; rfl] at k
    refine ⟨_, (pss_one (ps_ret (pe_fs (.cons pe_str (.cons (pe_fmt (pe_ix ix_tup (pe_fld (pv 0) rfl) pe_int (fun _ _ => rfl))) (.cons pe_str .nil)))))), ?_⟩
    have l0 : (Str.empty).length = 0 := rfl
    have l1 : ("Statement(" : Str).length = 10 := rfl
    have l2 : (")" : Str).length = 1 := rfl
    refine ⟨("Statement(" : Str), rfl, len5000 (by simp only [app_length, l0, l1]; omega), _, rfl, p, C, dx, _, _, rfl, h2, fc.cl, fc.na _ (by decide +kernel), h5, pr, _, _, _, rfl, rfl, SqT.of h6, atI_nat (j := 0) rfl, Or.inl ⟨r, rfl, len5000 (by omega), r, rfl, len5000 (by simp only [app_length, l0, l1]; omega), (")" : Str), rfl, len5000 (by simp only [app_length, l0, l1, l2]; omega), ?_⟩⟩
    show Q (.str (Str.empty ++ ("Statement(" : Str) ++ r ++ (")" : Str))) H
    rw [emp_app]
    exact k
def spLook (K : PySem.W.Frag) (A : Ads) : Sp := fun vs H Q _ => ∃ (a dx : Addr) (z0 z1 : Str), vs = [.ref a, .str z0, .str z1] ∧ H a = some (.ins A.c_Look dx []) ∧ NameT z0 ∧ NameT z1 ∧ ∀ H', StAt K A H' a ⟨0, 1, 1, [("look " : Str) ++ z0 ++ (" into " : Str) ++ z1]⟩ [] [] → KeepBut a H H' → Q .non H'
theorem ok_Look___init__ (T : Txt K mg A) : FnOk P w K mg base CX0 5 A.a_Look___init__ A.d_Look___init__ ["self", "cell", "into"] (spLook K A) := by
  have nd := ss_Look___init__.nd
  refine T.f_Look___init__.ok ss_Look___init__ (ar := _) rfl rfl rfl (fun vs H Q E h => ?_) (fun cdv A' outer s H vs Q E hr S h => ?_)
  · obtain ⟨a, dx, z0, z1, rfl, _⟩ := h
    rfl
  · obtain ⟨a, dx, z0, z1, rfl, ha, hz0, hz1, k⟩ := h
    have mem : A.c_Look ∈ A.fam := List.mem_of_getElem? (show A.fam[0]? = some A.c_Look from rfl)
    have fc := T.fam _ mem
    refine ⟨_, (psa_cons (ps_expr (pe_call (ok_check_name T) (hr.mono (by decide)) (by rfl) T.m_check_name T.k_check_name T.v_check_name .nil pass0 (pa_cons (pv 1) pa_nil)))
      (psa_cons (ps_expr (pe_call (ok_check_name T) (hr.mono (by decide)) (by rfl) T.m_check_name T.k_check_name T.v_check_name .nil pass0 (pa_cons (pv 2) pa_nil)))
      (psa_sup S ((ok_Statement___init__ T).raw (dvs := [.ref A.x_Statement___init___1, .ref A.x_Statement___init___2]) T.vd_Statement___init___2 (.cons rfl (.cons rfl .nil))) (hr.mono (by decide)) pass0 (pa_cons (pe_fs (.cons pe_str (.cons (pe_fmt (pv 1)) (.cons pe_str (.cons (pe_fmt (pv 2)) .nil))))) (pa_cons (pe_tup (pa_cons (pv 2) pa_nil)) pa_nil)) (psa_any (pss_cons (ps_fld (pv 0) (pv 1) rfl)
      (pss_one (ps_fld (pv 0) (pv 2) rfl)))) T.b_super T.fi_Statement___init__ T.ft_Statement___init__))), ?_⟩
    refine ⟨_, rfl, .str z0, .str, rfl, hz0.th H, hz0.1, fun H1 s1 => ?_⟩
    have q1 := s1
    refine ⟨_, rfl, .str z1, .str, rfl, hz1.th H1, hz1.1, fun H2 s2 => ?_⟩
    have q2 := q1.trans s2
    refine ⟨a, A.c_Look, dx, [], rfl, q2 _ _ ha, T.slf _ mem, T.sup _ mem, fun q hq => ?_⟩
    have sq := q2.trans (same_new (o := .met A.a_Statement___init__ a) hq)
    have l0 : (Str.empty).length = 0 := rfl
    have l1 : (" into " : Str).length = 6 := rfl
    have l2 : ("look " : Str).length = 5 := rfl
    have mz0 := hz0.2.2
    have mz1 := hz1.2.2
    refine ⟨("look " : Str), rfl, (len5000 (by simp only [app_length, l0, l1, l2]; omega)), _, rfl, Or.inl ⟨z0, rfl, len5000 (by omega), z0, rfl, (len5000 (by simp only [app_length, l0, l1, l2]; omega)), (" into " : Str), rfl, (len5000 (by simp only [app_length, l0, l1, l2]; omega)), _, rfl, Or.inl ⟨z1, rfl, len5000 (by omega), z1, rfl, (len5000 (by simp only [app_length, l0, l1, l2]; omega)), _, rfl, (by show 1 ≤ sizeLine; decide), fun pm hpm => ?_⟩⟩⟩
    have sm := sq.trans (same_new (o := .tup [.str z1]) hpm)
    have hm : (upd (upd H2 q (.met A.a_Statement___init__ a)) pm (.tup [.str z1])) q = some (.met A.a_Statement___init__ a) := same_new hpm _ _ upd_same
    refine ⟨hm, a, A.c_Look, dx, pm, A.x_Statement___init___1, A.x_Statement___init___2, _, [], [], rfl, mem, sm _ _ ha, T.e_Statement___init___1 _, T.e_Statement___init___2 _, fun _ h => (List.not_mem_nil h).elim, fun _ h => (List.not_mem_nil h).elim, by decide, by decide, ?_, ?_, fun ps pr H' h1 h2 h3 kb => ?_⟩
    · simp only [app_length, l0, l1, l2]
      omega
    · exact (aln_app (aln_app (aln_app (aln_app (aln_by (by decide +kernel)) (aln_by (by decide +kernel))) hz0.2.1) (aln_by (by decide +kernel))) hz1.2.1)
    rw [emp_app] at h3
    refine ⟨_, rfl, _, rfl, a, _, dx, _, rfl, h1, fc.cl, fc.na _ (by decide +kernel), (by show 7 < 1000; decide), ?_⟩
    refine ⟨_, rfl, _, rfl, a, _, dx, _, rfl, upd_same, fc.cl, fc.na _ (by decide +kernel), (by show 7 < 1000; decide), ?_⟩
    have n1 : ps ≠ a := ne_of h2 h1 (by intro z; cases z)
    have n2 : pr ≠ a := ne_of h3 h1 (by intro z; cases z)
    refine k _ ⟨A.c_Look, dx, _, ps, pr, A.x_Statement___init___1, A.x_Statement___init___2, rfl, upd_same, rfl, (upd_ne n1).trans ((upd_ne n1).trans (h2)), rfl, (upd_ne n2).trans ((upd_ne n2).trans (h3)), rfl, T.e_Statement___init___1 _, rfl, T.e_Statement___init___2 _, rfl, ?_⟩ ?_
    · refine ⟨by show 1 ≤ 1; decide, by show 1 ≤ 40; decide, by show 1 ≤ 1; decide, by show 1 ≤ 5; decide, by show 1 ≤ 1; decide, by show 1 ≤ 2; decide, fun r hr => ?_⟩
      rw [List.mem_singleton.mp hr]
      refine ⟨?_, (aln_app (aln_app (aln_app (aln_by (by decide +kernel)) hz0.2.1) (aln_by (by decide +kernel))) hz1.2.1)⟩
      simp only [app_length, l1, l2]
      omega
    · intro b o nb e
      rw [upd_ne nb, upd_ne nb]
      exact kb _ _ nb (sm _ _ e)
def spPut (K : PySem.W.Frag) (A : Ads) : Sp := fun vs H Q _ => ∃ (a dx : Addr) (z0 z1 : Str), vs = [.ref a, .str z0, .str z1] ∧ H a = some (.ins A.c_Put dx []) ∧ NameT z0 ∧ OperT z1 ∧ ∀ H', StAt K A H' a ⟨1, 1, 1, [("put " : Str) ++ z0 ++ (" " : Str) ++ z1]⟩ [] [] → KeepBut a H H' → Q .non H'
theorem ok_Put___init__ (T : Txt K mg A) : FnOk P w K mg base CX0 5 A.a_Put___init__ A.d_Put___init__ ["self", "cell", "operand"] (spPut K A) := by
  have nd := ss_Put___init__.nd
  refine T.f_Put___init__.ok ss_Put___init__ (ar := _) rfl rfl rfl (fun vs H Q E h => ?_) (fun cdv A' outer s H vs Q E hr S h => ?_)
  · obtain ⟨a, dx, z0, z1, rfl, _⟩ := h
    rfl
  · obtain ⟨a, dx, z0, z1, rfl, ha, hz0, hz1, k⟩ := h
    have mem : A.c_Put ∈ A.fam := List.mem_of_getElem? (show A.fam[1]? = some A.c_Put from rfl)
    have fc := T.fam _ mem
    refine ⟨_, (psa_cons (ps_expr (pe_call (ok_check_name T) (hr.mono (by decide)) (by rfl) T.m_check_name T.k_check_name T.v_check_name .nil pass0 (pa_cons (pv 1) pa_nil)))
      (psa_cons (ps_expr (pe_call (ok_check_operand T) (hr.mono (by decide)) (by rfl) T.m_check_operand T.k_check_operand T.v_check_operand .nil pass0 (pa_cons (pv 2) pa_nil)))
      (psa_sup S ((ok_Statement___init__ T).raw (dvs := [.ref A.x_Statement___init___1, .ref A.x_Statement___init___2]) T.vd_Statement___init___2 (.cons rfl (.cons rfl .nil))) (hr.mono (by decide)) pass0 (pa_cons (pe_fs (.cons pe_str (.cons (pe_fmt (pv 1)) (.cons pe_str (.cons (pe_fmt (pv 2)) .nil))))) (pa_cons (pe_tup (pa_cons (pv 2) pa_nil)) pa_nil)) (psa_any (pss_cons (ps_fld (pv 0) (pv 1) rfl)
      (pss_one (ps_fld (pv 0) (pv 2) rfl)))) T.b_super T.fi_Statement___init__ T.ft_Statement___init__))), ?_⟩
    refine ⟨_, rfl, .str z0, .str, rfl, hz0.th H, hz0.1, fun H1 s1 => ?_⟩
    have q1 := s1
    refine ⟨_, rfl, .str z1, .str, rfl, hz1.th H1, hz1.1, fun H2 s2 => ?_⟩
    have q2 := q1.trans s2
    refine ⟨a, A.c_Put, dx, [], rfl, q2 _ _ ha, T.slf _ mem, T.sup _ mem, fun q hq => ?_⟩
    have sq := q2.trans (same_new (o := .met A.a_Statement___init__ a) hq)
    have l0 : (Str.empty).length = 0 := rfl
    have l1 : (" " : Str).length = 1 := rfl
    have l2 : ("put " : Str).length = 4 := rfl
    have mz0 := hz0.2.2
    have mz1 := hz1.2.2
    refine ⟨("put " : Str), rfl, (len5000 (by simp only [app_length, l0, l1, l2]; omega)), _, rfl, Or.inl ⟨z0, rfl, len5000 (by omega), z0, rfl, (len5000 (by simp only [app_length, l0, l1, l2]; omega)), (" " : Str), rfl, (len5000 (by simp only [app_length, l0, l1, l2]; omega)), _, rfl, Or.inl ⟨z1, rfl, len5000 (by omega), z1, rfl, (len5000 (by simp only [app_length, l0, l1, l2]; omega)), _, rfl, (by show 1 ≤ sizeLine; decide), fun pm hpm => ?_⟩⟩⟩
    have sm := sq.trans (same_new (o := .tup [.str z1]) hpm)
    have hm : (upd (upd H2 q (.met A.a_Statement___init__ a)) pm (.tup [.str z1])) q = some (.met A.a_Statement___init__ a) := same_new hpm _ _ upd_same
    refine ⟨hm, a, A.c_Put, dx, pm, A.x_Statement___init___1, A.x_Statement___init___2, _, [], [], rfl, mem, sm _ _ ha, T.e_Statement___init___1 _, T.e_Statement___init___2 _, fun _ h => (List.not_mem_nil h).elim, fun _ h => (List.not_mem_nil h).elim, by decide, by decide, ?_, ?_, fun ps pr H' h1 h2 h3 kb => ?_⟩
    · simp only [app_length, l0, l1, l2]
      omega
    · exact (aln_app (aln_app (aln_app (aln_app (aln_by (by decide +kernel)) (aln_by (by decide +kernel))) hz0.2.1) (aln_by (by decide +kernel))) hz1.2.1)
    rw [emp_app] at h3
    refine ⟨_, rfl, _, rfl, a, _, dx, _, rfl, h1, fc.cl, fc.na _ (by decide +kernel), (by show 7 < 1000; decide), ?_⟩
    refine ⟨_, rfl, _, rfl, a, _, dx, _, rfl, upd_same, fc.cl, fc.na _ (by decide +kernel), (by show 7 < 1000; decide), ?_⟩
    have n1 : ps ≠ a := ne_of h2 h1 (by intro z; cases z)
    have n2 : pr ≠ a := ne_of h3 h1 (by intro z; cases z)
    refine k _ ⟨A.c_Put, dx, _, ps, pr, A.x_Statement___init___1, A.x_Statement___init___2, rfl, upd_same, rfl, (upd_ne n1).trans ((upd_ne n1).trans (h2)), rfl, (upd_ne n2).trans ((upd_ne n2).trans (h3)), rfl, T.e_Statement___init___1 _, rfl, T.e_Statement___init___2 _, rfl, ?_⟩ ?_
    · refine ⟨by show 1 ≤ 1; decide, by show 1 ≤ 40; decide, by show 1 ≤ 1; decide, by show 1 ≤ 5; decide, by show 1 ≤ 1; decide, by show 1 ≤ 2; decide, fun r hr => ?_⟩
      rw [List.mem_singleton.mp hr]
      refine ⟨?_, (aln_app (aln_app (aln_app (aln_by (by decide +kernel)) hz0.2.1) (aln_by (by decide +kernel))) hz1.2.1)⟩
      simp only [app_length, l1, l2]
      omega
    · intro b o nb e
      rw [upd_ne nb, upd_ne nb]
      exact kb _ _ nb (sm _ _ e)
def spSwap (K : PySem.W.Frag) (A : Ads) : Sp := fun vs H Q _ => ∃ (a dx : Addr) (z0 z1 z2 : Str), vs = [.ref a, .str z0, .str z1, .str z2] ∧ H a = some (.ins A.c_Swap dx []) ∧ NameT z0 ∧ OperT z1 ∧ NameT z2 ∧ ∀ H', StAt K A H' a ⟨2, 1, 1, [("swap " : Str) ++ z0 ++ (" " : Str) ++ z1 ++ (" into " : Str) ++ z2]⟩ [] [] → KeepBut a H H' → Q .non H'
theorem ok_Swap___init__ (T : Txt K mg A) : FnOk P w K mg base CX0 5 A.a_Swap___init__ A.d_Swap___init__ ["self", "cell", "operand", "into"] (spSwap K A) := by
  have nd := ss_Swap___init__.nd
  refine T.f_Swap___init__.ok ss_Swap___init__ (ar := _) rfl rfl rfl (fun vs H Q E h => ?_) (fun cdv A' outer s H vs Q E hr S h => ?_)
  · obtain ⟨a, dx, z0, z1, z2, rfl, _⟩ := h
    rfl
  · obtain ⟨a, dx, z0, z1, z2, rfl, ha, hz0, hz1, hz2, k⟩ := h
    have mem : A.c_Swap ∈ A.fam := List.mem_of_getElem? (show A.fam[2]? = some A.c_Swap from rfl)
    have fc := T.fam _ mem
    refine ⟨_, (psa_cons (ps_expr (pe_call (ok_check_name T) (hr.mono (by decide)) (by rfl) T.m_check_name T.k_check_name T.v_check_name .nil pass0 (pa_cons (pv 1) pa_nil)))
      (psa_cons (ps_expr (pe_call (ok_check_operand T) (hr.mono (by decide)) (by rfl) T.m_check_operand T.k_check_operand T.v_check_operand .nil pass0 (pa_cons (pv 2) pa_nil)))
      (psa_cons (ps_expr (pe_call (ok_check_name T) (hr.mono (by decide)) (by rfl) T.m_check_name T.k_check_name T.v_check_name .nil pass0 (pa_cons (pv 3) pa_nil)))
      (psa_sup S ((ok_Statement___init__ T).raw (dvs := [.ref A.x_Statement___init___1, .ref A.x_Statement___init___2]) T.vd_Statement___init___2 (.cons rfl (.cons rfl .nil))) (hr.mono (by decide)) pass0 (pa_cons (pe_fs (.cons pe_str (.cons (pe_fmt (pv 1)) (.cons pe_str (.cons (pe_fmt (pv 2)) (.cons pe_str (.cons (pe_fmt (pv 3)) .nil))))))) (pa_cons (pe_tup (pa_cons (pv 2) (pa_cons (pv 3) pa_nil))) pa_nil)) (psa_any (pss_cons (ps_fld (pv 0) (pv 1) rfl)
      (pss_cons (ps_fld (pv 0) (pv 2) rfl)
      (pss_one (ps_fld (pv 0) (pv 3) rfl))))) T.b_super T.fi_Statement___init__ T.ft_Statement___init__)))), ?_⟩
    refine ⟨_, rfl, .str z0, .str, rfl, hz0.th H, hz0.1, fun H1 s1 => ?_⟩
    have q1 := s1
    refine ⟨_, rfl, .str z1, .str, rfl, hz1.th H1, hz1.1, fun H2 s2 => ?_⟩
    have q2 := q1.trans s2
    refine ⟨_, rfl, .str z2, .str, rfl, hz2.th H2, hz2.1, fun H3 s3 => ?_⟩
    have q3 := q2.trans s3
    refine ⟨a, A.c_Swap, dx, [], rfl, q3 _ _ ha, T.slf _ mem, T.sup _ mem, fun q hq => ?_⟩
    have sq := q3.trans (same_new (o := .met A.a_Statement___init__ a) hq)
    have l0 : (Str.empty).length = 0 := rfl
    have l1 : (" " : Str).length = 1 := rfl
    have l2 : (" into " : Str).length = 6 := rfl
    have l3 : ("swap " : Str).length = 5 := rfl
    have mz0 := hz0.2.2
    have mz1 := hz1.2.2
    have mz2 := hz2.2.2
    refine ⟨("swap " : Str), rfl, (len5000 (by simp only [app_length, l0, l1, l2, l3]; omega)), _, rfl, Or.inl ⟨z0, rfl, len5000 (by omega), z0, rfl, (len5000 (by simp only [app_length, l0, l1, l2, l3]; omega)), (" " : Str), rfl, (len5000 (by simp only [app_length, l0, l1, l2, l3]; omega)), _, rfl, Or.inl ⟨z1, rfl, len5000 (by omega), z1, rfl, (len5000 (by simp only [app_length, l0, l1, l2, l3]; omega)), (" into " : Str), rfl, (len5000 (by simp only [app_length, l0, l1, l2, l3]; omega)), _, rfl, Or.inl ⟨z2, rfl, len5000 (by omega), z2, rfl, (len5000 (by simp only [app_length, l0, l1, l2, l3]; omega)), _, rfl, _, rfl, (by show 2 ≤ sizeLine; decide), fun pm hpm => ?_⟩⟩⟩⟩
    have sm := sq.trans (same_new (o := .tup [.str z1, .str z2]) hpm)
    have hm : (upd (upd H3 q (.met A.a_Statement___init__ a)) pm (.tup [.str z1, .str z2])) q = some (.met A.a_Statement___init__ a) := same_new hpm _ _ upd_same
    refine ⟨hm, a, A.c_Swap, dx, pm, A.x_Statement___init___1, A.x_Statement___init___2, _, [], [], rfl, mem, sm _ _ ha, T.e_Statement___init___1 _, T.e_Statement___init___2 _, fun _ h => (List.not_mem_nil h).elim, fun _ h => (List.not_mem_nil h).elim, by decide, by decide, ?_, ?_, fun ps pr H' h1 h2 h3 kb => ?_⟩
    · simp only [app_length, l0, l1, l2, l3]
      omega
    · exact (aln_app (aln_app (aln_app (aln_app (aln_app (aln_app (aln_by (by decide +kernel)) (aln_by (by decide +kernel))) hz0.2.1) (aln_by (by decide +kernel))) hz1.2.1) (aln_by (by decide +kernel))) hz2.2.1)
    rw [emp_app] at h3
    refine ⟨_, rfl, _, rfl, a, _, dx, _, rfl, h1, fc.cl, fc.na _ (by decide +kernel), (by show 7 < 1000; decide), ?_⟩
    refine ⟨_, rfl, _, rfl, a, _, dx, _, rfl, upd_same, fc.cl, fc.na _ (by decide +kernel), (by show 7 < 1000; decide), ?_⟩
    refine ⟨_, rfl, _, rfl, a, _, dx, _, rfl, upd_same, fc.cl, fc.na _ (by decide +kernel), (by show 8 < 1000; decide), ?_⟩
    have n1 : ps ≠ a := ne_of h2 h1 (by intro z; cases z)
    have n2 : pr ≠ a := ne_of h3 h1 (by intro z; cases z)
    refine k _ ⟨A.c_Swap, dx, _, ps, pr, A.x_Statement___init___1, A.x_Statement___init___2, rfl, upd_same, rfl, (upd_ne n1).trans ((upd_ne n1).trans ((upd_ne n1).trans (h2))), rfl, (upd_ne n2).trans ((upd_ne n2).trans ((upd_ne n2).trans (h3))), rfl, T.e_Statement___init___1 _, rfl, T.e_Statement___init___2 _, rfl, ?_⟩ ?_
    · refine ⟨by show 1 ≤ 1; decide, by show 1 ≤ 40; decide, by show 1 ≤ 1; decide, by show 1 ≤ 5; decide, by show 1 ≤ 1; decide, by show 1 ≤ 2; decide, fun r hr => ?_⟩
      rw [List.mem_singleton.mp hr]
      refine ⟨?_, (aln_app (aln_app (aln_app (aln_app (aln_app (aln_by (by decide +kernel)) hz0.2.1) (aln_by (by decide +kernel))) hz1.2.1) (aln_by (by decide +kernel))) hz2.2.1)⟩
      simp only [app_length, l1, l2, l3]
      omega
    · intro b o nb e
      rw [upd_ne nb, upd_ne nb, upd_ne nb]
      exact kb _ _ nb (sm _ _ e)
def spTry (K : PySem.W.Frag) (A : Ads) : Sp := fun vs H Q _ => ∃ (a dx : Addr) (z0 z1 z2 z3 : Str), vs = [.ref a, .str z0, .str z1, .str z2, .str z3] ∧ H a = some (.ins A.c_Try dx []) ∧ NameT z0 ∧ OperT z1 ∧ OperT z2 ∧ NameT z3 ∧ ∀ H', StAt K A H' a ⟨3, 1, 1, [("try " : Str) ++ z0 ++ (" " : Str) ++ z1 ++ (" " : Str) ++ z2 ++ (" into " : Str) ++ z3]⟩ [] [] → KeepBut a H H' → Q .non H'
theorem ok_Try___init__ (T : Txt K mg A) : FnOk P w K mg base CX0 5 A.a_Try___init__ A.d_Try___init__ ["self", "cell", "old", "new", "into"] (spTry K A) := by
  have nd := ss_Try___init__.nd
  refine T.f_Try___init__.ok ss_Try___init__ (ar := _) rfl rfl rfl (fun vs H Q E h => ?_) (fun cdv A' outer s H vs Q E hr S h => ?_)
  · obtain ⟨a, dx, z0, z1, z2, z3, rfl, _⟩ := h
    rfl
  · obtain ⟨a, dx, z0, z1, z2, z3, rfl, ha, hz0, hz1, hz2, hz3, k⟩ := h
    have mem : A.c_Try ∈ A.fam := List.mem_of_getElem? (show A.fam[3]? = some A.c_Try from rfl)
    have fc := T.fam _ mem
    refine ⟨_, (psa_cons (ps_expr (pe_call (ok_check_name T) (hr.mono (by decide)) (by rfl) T.m_check_name T.k_check_name T.v_check_name .nil pass0 (pa_cons (pv 1) pa_nil)))
      (psa_cons (ps_expr (pe_call (ok_check_operand T) (hr.mono (by decide)) (by rfl) T.m_check_operand T.k_check_operand T.v_check_operand .nil pass0 (pa_cons (pv 2) pa_nil)))
      (psa_cons (ps_expr (pe_call (ok_check_operand T) (hr.mono (by decide)) (by rfl) T.m_check_operand T.k_check_operand T.v_check_operand .nil pass0 (pa_cons (pv 3) pa_nil)))
      (psa_cons (ps_expr (pe_call (ok_check_name T) (hr.mono (by decide)) (by rfl) T.m_check_name T.k_check_name T.v_check_name .nil pass0 (pa_cons (pv 4) pa_nil)))
      (psa_sup S ((ok_Statement___init__ T).raw (dvs := [.ref A.x_Statement___init___1, .ref A.x_Statement___init___2]) T.vd_Statement___init___2 (.cons rfl (.cons rfl .nil))) (hr.mono (by decide)) pass0 (pa_cons (pe_fs (.cons pe_str (.cons (pe_fmt (pv 1)) (.cons pe_str (.cons (pe_fmt (pv 2)) (.cons pe_str (.cons (pe_fmt (pv 3)) (.cons pe_str (.cons (pe_fmt (pv 4)) .nil))))))))) (pa_cons (pe_tup (pa_cons (pv 2) (pa_cons (pv 3) (pa_cons (pv 4) pa_nil)))) pa_nil)) (psa_any (pss_cons (ps_fld (pv 0) (pv 1) rfl)
      (pss_cons (ps_fld (pv 0) (pv 2) rfl)
      (pss_cons (ps_fld (pv 0) (pv 3) rfl)
      (pss_one (ps_fld (pv 0) (pv 4) rfl)))))) T.b_super T.fi_Statement___init__ T.ft_Statement___init__))))), ?_⟩
    refine ⟨_, rfl, .str z0, .str, rfl, hz0.th H, hz0.1, fun H1 s1 => ?_⟩
    have q1 := s1
    refine ⟨_, rfl, .str z1, .str, rfl, hz1.th H1, hz1.1, fun H2 s2 => ?_⟩
    have q2 := q1.trans s2
    refine ⟨_, rfl, .str z2, .str, rfl, hz2.th H2, hz2.1, fun H3 s3 => ?_⟩
    have q3 := q2.trans s3
    refine ⟨_, rfl, .str z3, .str, rfl, hz3.th H3, hz3.1, fun H4 s4 => ?_⟩
    have q4 := q3.trans s4
    refine ⟨a, A.c_Try, dx, [], rfl, q4 _ _ ha, T.slf _ mem, T.sup _ mem, fun q hq => ?_⟩
    have sq := q4.trans (same_new (o := .met A.a_Statement___init__ a) hq)
    have l0 : (Str.empty).length = 0 := rfl
    have l1 : (" " : Str).length = 1 := rfl
    have l2 : (" into " : Str).length = 6 := rfl
    have l3 : ("try " : Str).length = 4 := rfl
    have mz0 := hz0.2.2
    have mz1 := hz1.2.2
    have mz2 := hz2.2.2
    have mz3 := hz3.2.2
    refine ⟨("try " : Str), rfl, (len5000 (by simp only [app_length, l0, l1, l2, l3]; omega)), _, rfl, Or.inl ⟨z0, rfl, len5000 (by omega), z0, rfl, (len5000 (by simp only [app_length, l0, l1, l2, l3]; omega)), (" " : Str), rfl, (len5000 (by simp only [app_length, l0, l1, l2, l3]; omega)), _, rfl, Or.inl ⟨z1, rfl, len5000 (by omega), z1, rfl, (len5000 (by simp only [app_length, l0, l1, l2, l3]; omega)), (" " : Str), rfl, (len5000 (by simp only [app_length, l0, l1, l2, l3]; omega)), _, rfl, Or.inl ⟨z2, rfl, len5000 (by omega), z2, rfl, (len5000 (by simp only [app_length, l0, l1, l2, l3]; omega)), (" into " : Str), rfl, (len5000 (by simp only [app_length, l0, l1, l2, l3]; omega)), _, rfl, Or.inl ⟨z3, rfl, len5000 (by omega), z3, rfl, (len5000 (by simp only [app_length, l0, l1, l2, l3]; omega)), _, rfl, _, rfl, _, rfl, (by show 3 ≤ sizeLine; decide), fun pm hpm => ?_⟩⟩⟩⟩⟩
    have sm := sq.trans (same_new (o := .tup [.str z1, .str z2, .str z3]) hpm)
    have hm : (upd (upd H4 q (.met A.a_Statement___init__ a)) pm (.tup [.str z1, .str z2, .str z3])) q = some (.met A.a_Statement___init__ a) := same_new hpm _ _ upd_same
    refine ⟨hm, a, A.c_Try, dx, pm, A.x_Statement___init___1, A.x_Statement___init___2, _, [], [], rfl, mem, sm _ _ ha, T.e_Statement___init___1 _, T.e_Statement___init___2 _, fun _ h => (List.not_mem_nil h).elim, fun _ h => (List.not_mem_nil h).elim, by decide, by decide, ?_, ?_, fun ps pr H' h1 h2 h3 kb => ?_⟩
    · simp only [app_length, l0, l1, l2, l3]
      omega
    · exact (aln_app (aln_app (aln_app (aln_app (aln_app (aln_app (aln_app (aln_app (aln_by (by decide +kernel)) (aln_by (by decide +kernel))) hz0.2.1) (aln_by (by decide +kernel))) hz1.2.1) (aln_by (by decide +kernel))) hz2.2.1) (aln_by (by decide +kernel))) hz3.2.1)
    rw [emp_app] at h3
    refine ⟨_, rfl, _, rfl, a, _, dx, _, rfl, h1, fc.cl, fc.na _ (by decide +kernel), (by show 7 < 1000; decide), ?_⟩
    refine ⟨_, rfl, _, rfl, a, _, dx, _, rfl, upd_same, fc.cl, fc.na _ (by decide +kernel), (by show 7 < 1000; decide), ?_⟩
    refine ⟨_, rfl, _, rfl, a, _, dx, _, rfl, upd_same, fc.cl, fc.na _ (by decide +kernel), (by show 8 < 1000; decide), ?_⟩
    refine ⟨_, rfl, _, rfl, a, _, dx, _, rfl, upd_same, fc.cl, fc.na _ (by decide +kernel), (by show 9 < 1000; decide), ?_⟩
    have n1 : ps ≠ a := ne_of h2 h1 (by intro z; cases z)
    have n2 : pr ≠ a := ne_of h3 h1 (by intro z; cases z)
    refine k _ ⟨A.c_Try, dx, _, ps, pr, A.x_Statement___init___1, A.x_Statement___init___2, rfl, upd_same, rfl, (upd_ne n1).trans ((upd_ne n1).trans ((upd_ne n1).trans ((upd_ne n1).trans (h2)))), rfl, (upd_ne n2).trans ((upd_ne n2).trans ((upd_ne n2).trans ((upd_ne n2).trans (h3)))), rfl, T.e_Statement___init___1 _, rfl, T.e_Statement___init___2 _, rfl, ?_⟩ ?_
    · refine ⟨by show 1 ≤ 1; decide, by show 1 ≤ 40; decide, by show 1 ≤ 1; decide, by show 1 ≤ 5; decide, by show 1 ≤ 1; decide, by show 1 ≤ 2; decide, fun r hr => ?_⟩
      rw [List.mem_singleton.mp hr]
      refine ⟨?_, (aln_app (aln_app (aln_app (aln_app (aln_app (aln_app (aln_app (aln_by (by decide +kernel)) hz0.2.1) (aln_by (by decide +kernel))) hz1.2.1) (aln_by (by decide +kernel))) hz2.2.1) (aln_by (by decide +kernel))) hz3.2.1)⟩
      simp only [app_length, l1, l2, l3]
      omega
    · intro b o nb e
      rw [upd_ne nb, upd_ne nb, upd_ne nb, upd_ne nb]
      exact kb _ _ nb (sm _ _ e)
def spLet (K : PySem.W.Frag) (A : Ads) : Sp := fun vs H Q _ => ∃ (a dx : Addr) (z0 z1 : Str), vs = [.ref a, .str z0, .str z1] ∧ H a = some (.ins A.c_Let dx []) ∧ NameT z0 ∧ OperT z1 ∧ ∀ H', StAt K A H' a ⟨4, 1, 1, [("let " : Str) ++ z0 ++ (" " : Str) ++ z1]⟩ [] [] → KeepBut a H H' → Q .non H'
theorem ok_Let___init__ (T : Txt K mg A) : FnOk P w K mg base CX0 5 A.a_Let___init__ A.d_Let___init__ ["self", "into", "operand"] (spLet K A) := by
  have nd := ss_Let___init__.nd
  refine T.f_Let___init__.ok ss_Let___init__ (ar := _) rfl rfl rfl (fun vs H Q E h => ?_) (fun cdv A' outer s H vs Q E hr S h => ?_)
  · obtain ⟨a, dx, z0, z1, rfl, _⟩ := h
    rfl
  · obtain ⟨a, dx, z0, z1, rfl, ha, hz0, hz1, k⟩ := h
    have mem : A.c_Let ∈ A.fam := List.mem_of_getElem? (show A.fam[4]? = some A.c_Let from rfl)
    have fc := T.fam _ mem
    refine ⟨_, (psa_cons (ps_expr (pe_call (ok_check_name T) (hr.mono (by decide)) (by rfl) T.m_check_name T.k_check_name T.v_check_name .nil pass0 (pa_cons (pv 1) pa_nil)))
      (psa_cons (ps_expr (pe_call (ok_check_operand T) (hr.mono (by decide)) (by rfl) T.m_check_operand T.k_check_operand T.v_check_operand .nil pass0 (pa_cons (pv 2) pa_nil)))
      (psa_sup S ((ok_Statement___init__ T).raw (dvs := [.ref A.x_Statement___init___1, .ref A.x_Statement___init___2]) T.vd_Statement___init___2 (.cons rfl (.cons rfl .nil))) (hr.mono (by decide)) pass0 (pa_cons (pe_fs (.cons pe_str (.cons (pe_fmt (pv 1)) (.cons pe_str (.cons (pe_fmt (pv 2)) .nil))))) (pa_cons (pe_tup (pa_cons (pv 1) (pa_cons (pv 2) pa_nil))) pa_nil)) (psa_any (pss_cons (ps_fld (pv 0) (pv 1) rfl)
      (pss_one (ps_fld (pv 0) (pv 2) rfl)))) T.b_super T.fi_Statement___init__ T.ft_Statement___init__))), ?_⟩
    refine ⟨_, rfl, .str z0, .str, rfl, hz0.th H, hz0.1, fun H1 s1 => ?_⟩
    have q1 := s1
    refine ⟨_, rfl, .str z1, .str, rfl, hz1.th H1, hz1.1, fun H2 s2 => ?_⟩
    have q2 := q1.trans s2
    refine ⟨a, A.c_Let, dx, [], rfl, q2 _ _ ha, T.slf _ mem, T.sup _ mem, fun q hq => ?_⟩
    have sq := q2.trans (same_new (o := .met A.a_Statement___init__ a) hq)
    have l0 : (Str.empty).length = 0 := rfl
    have l1 : (" " : Str).length = 1 := rfl
    have l2 : ("let " : Str).length = 4 := rfl
    have mz0 := hz0.2.2
    have mz1 := hz1.2.2
    refine ⟨("let " : Str), rfl, (len5000 (by simp only [app_length, l0, l1, l2]; omega)), _, rfl, Or.inl ⟨z0, rfl, len5000 (by omega), z0, rfl, (len5000 (by simp only [app_length, l0, l1, l2]; omega)), (" " : Str), rfl, (len5000 (by simp only [app_length, l0, l1, l2]; omega)), _, rfl, Or.inl ⟨z1, rfl, len5000 (by omega), z1, rfl, (len5000 (by simp only [app_length, l0, l1, l2]; omega)), _, rfl, _, rfl, (by show 2 ≤ sizeLine; decide), fun pm hpm => ?_⟩⟩⟩
    have sm := sq.trans (same_new (o := .tup [.str z0, .str z1]) hpm)
    have hm : (upd (upd H2 q (.met A.a_Statement___init__ a)) pm (.tup [.str z0, .str z1])) q = some (.met A.a_Statement___init__ a) := same_new hpm _ _ upd_same
    refine ⟨hm, a, A.c_Let, dx, pm, A.x_Statement___init___1, A.x_Statement___init___2, _, [], [], rfl, mem, sm _ _ ha, T.e_Statement___init___1 _, T.e_Statement___init___2 _, fun _ h => (List.not_mem_nil h).elim, fun _ h => (List.not_mem_nil h).elim, by decide, by decide, ?_, ?_, fun ps pr H' h1 h2 h3 kb => ?_⟩
    · simp only [app_length, l0, l1, l2]
      omega
    · exact (aln_app (aln_app (aln_app (aln_app (aln_by (by decide +kernel)) (aln_by (by decide +kernel))) hz0.2.1) (aln_by (by decide +kernel))) hz1.2.1)
    rw [emp_app] at h3
    refine ⟨_, rfl, _, rfl, a, _, dx, _, rfl, h1, fc.cl, fc.na _ (by decide +kernel), (by show 7 < 1000; decide), ?_⟩
    refine ⟨_, rfl, _, rfl, a, _, dx, _, rfl, upd_same, fc.cl, fc.na _ (by decide +kernel), (by show 7 < 1000; decide), ?_⟩
    have n1 : ps ≠ a := ne_of h2 h1 (by intro z; cases z)
    have n2 : pr ≠ a := ne_of h3 h1 (by intro z; cases z)
    refine k _ ⟨A.c_Let, dx, _, ps, pr, A.x_Statement___init___1, A.x_Statement___init___2, rfl, upd_same, rfl, (upd_ne n1).trans ((upd_ne n1).trans (h2)), rfl, (upd_ne n2).trans ((upd_ne n2).trans (h3)), rfl, T.e_Statement___init___1 _, rfl, T.e_Statement___init___2 _, rfl, ?_⟩ ?_
    · refine ⟨by show 1 ≤ 1; decide, by show 1 ≤ 40; decide, by show 1 ≤ 1; decide, by show 1 ≤ 5; decide, by show 1 ≤ 1; decide, by show 1 ≤ 2; decide, fun r hr => ?_⟩
      rw [List.mem_singleton.mp hr]
      refine ⟨?_, (aln_app (aln_app (aln_app (aln_by (by decide +kernel)) hz0.2.1) (aln_by (by decide +kernel))) hz1.2.1)⟩
      simp only [app_length, l1, l2]
      omega
    · intro b o nb e
      rw [upd_ne nb, upd_ne nb]
      exact kb _ _ nb (sm _ _ e)
def spLeave (K : PySem.W.Frag) (A : Ads) : Sp := fun vs H Q _ => ∃ (a dx : Addr), vs = [.ref a] ∧ H a = some (.ins A.c_Leave dx []) ∧ ∀ H', StAt K A H' a ⟨5, 1, 1, [("leave" : Str)]⟩ [] [] → KeepBut a H H' → Q .non H'
theorem ok_Leave___init__ (T : Txt K mg A) : FnOk P w K mg base CX0 5 A.a_Leave___init__ A.d_Leave___init__ ["self"] (spLeave K A) := by
  have nd := ss_Leave___init__.nd
  refine T.f_Leave___init__.ok ss_Leave___init__ (ar := _) rfl rfl rfl (fun vs H Q E h => ?_) (fun cdv A' outer s H vs Q E hr S h => ?_)
  · obtain ⟨a, dx, rfl, _⟩ := h
    rfl
  · obtain ⟨a, dx, rfl, ha, k⟩ := h
    have mem : A.c_Leave ∈ A.fam := List.mem_of_getElem? (show A.fam[5]? = some A.c_Leave from rfl)
    have fc := T.fam _ mem
    refine ⟨_, (psa_sup S ((ok_Statement___init__ T).raw (dvs := [.ref A.x_Statement___init___0, .ref A.x_Statement___init___1, .ref A.x_Statement___init___2]) T.vd_Statement___init___1 (.cons rfl (.cons rfl (.cons rfl .nil)))) (hr.mono (by decide)) pass0 (pa_cons pe_str pa_nil) (psa_any pss_nil) T.b_super T.fi_Statement___init__ T.ft_Statement___init__), ?_⟩
    refine ⟨a, A.c_Leave, dx, [], rfl, (Same.refl H) _ _ ha, T.slf _ mem, T.sup _ mem, fun q hq => ?_⟩
    have sq := (Same.refl H).trans (same_new (o := .met A.a_Statement___init__ a) hq)
    have l0 : (Str.empty).length = 0 := rfl
    have l1 : ("leave" : Str).length = 5 := rfl
    have sm := sq
    have hm : (upd H q (.met A.a_Statement___init__ a)) q = some (.met A.a_Statement___init__ a) := upd_same
    refine ⟨hm, a, A.c_Leave, dx, A.x_Statement___init___0, A.x_Statement___init___1, A.x_Statement___init___2, _, [], [], rfl, mem, sm _ _ ha, T.e_Statement___init___1 _, T.e_Statement___init___2 _, fun _ h => (List.not_mem_nil h).elim, fun _ h => (List.not_mem_nil h).elim, by decide, by decide, ?_, ?_, fun ps pr H' h1 h2 h3 kb => ?_⟩
    · decide
    · exact aln_by (by decide +kernel)
    have n1 : ps ≠ a := ne_of h2 h1 (by intro z; cases z)
    have n2 : pr ≠ a := ne_of h3 h1 (by intro z; cases z)
    refine k _ ⟨A.c_Leave, dx, _, ps, pr, A.x_Statement___init___1, A.x_Statement___init___2, rfl, h1, rfl, h2, rfl, h3, rfl, T.e_Statement___init___1 _, rfl, T.e_Statement___init___2 _, rfl, ?_⟩ ?_
    · refine ⟨by show 1 ≤ 1; decide, by show 1 ≤ 40; decide, by show 1 ≤ 1; decide, by show 1 ≤ 5; decide, by show 1 ≤ 1; decide, by show 1 ≤ 2; decide, fun r hr => ?_⟩
      rw [List.mem_singleton.mp hr]
      exact ⟨by decide, aln_by (by decide +kernel)⟩
    · intro b o nb e
      exact kb _ _ nb (sm _ _ e)
def spReturn (K : PySem.W.Frag) (A : Ads) : Sp := fun vs H Q _ => ∃ (a dx : Addr) (z0 : Str), vs = [.ref a, .str z0] ∧ H a = some (.ins A.c_Return dx []) ∧ OperT z0 ∧ ∀ H', StAt K A H' a ⟨6, 1, 1, [("return " : Str) ++ z0]⟩ [] [] → KeepBut a H H' → Q .non H'
theorem ok_Return___init__ (T : Txt K mg A) : FnOk P w K mg base CX0 5 A.a_Return___init__ A.d_Return___init__ ["self", "operand"] (spReturn K A) := by
  have nd := ss_Return___init__.nd
  refine T.f_Return___init__.ok ss_Return___init__ (ar := _) rfl rfl rfl (fun vs H Q E h => ?_) (fun cdv A' outer s H vs Q E hr S h => ?_)
  · obtain ⟨a, dx, z0, rfl, _⟩ := h
    rfl
  · obtain ⟨a, dx, z0, rfl, ha, hz0, k⟩ := h
    have mem : A.c_Return ∈ A.fam := List.mem_of_getElem? (show A.fam[6]? = some A.c_Return from rfl)
    have fc := T.fam _ mem
    refine ⟨_, (psa_cons (ps_expr (pe_call (ok_check_operand T) (hr.mono (by decide)) (by rfl) T.m_check_operand T.k_check_operand T.v_check_operand .nil pass0 (pa_cons (pv 1) pa_nil)))
      (psa_sup S ((ok_Statement___init__ T).raw (dvs := [.ref A.x_Statement___init___1, .ref A.x_Statement___init___2]) T.vd_Statement___init___2 (.cons rfl (.cons rfl .nil))) (hr.mono (by decide)) pass0 (pa_cons (pe_fs (.cons pe_str (.cons (pe_fmt (pv 1)) .nil))) (pa_cons (pe_tup (pa_cons (pv 1) pa_nil)) pa_nil)) (psa_any (pss_one (ps_fld (pv 0) (pv 1) rfl))) T.b_super T.fi_Statement___init__ T.ft_Statement___init__)), ?_⟩
    refine ⟨_, rfl, .str z0, .str, rfl, hz0.th H, hz0.1, fun H1 s1 => ?_⟩
    have q1 := s1
    refine ⟨a, A.c_Return, dx, [], rfl, q1 _ _ ha, T.slf _ mem, T.sup _ mem, fun q hq => ?_⟩
    have sq := q1.trans (same_new (o := .met A.a_Statement___init__ a) hq)
    have l0 : (Str.empty).length = 0 := rfl
    have l1 : ("return " : Str).length = 7 := rfl
    have mz0 := hz0.2.2
    refine ⟨("return " : Str), rfl, (len5000 (by simp only [app_length, l0, l1]; omega)), _, rfl, Or.inl ⟨z0, rfl, len5000 (by omega), z0, rfl, (len5000 (by simp only [app_length, l0, l1]; omega)), _, rfl, (by show 1 ≤ sizeLine; decide), fun pm hpm => ?_⟩⟩
    have sm := sq.trans (same_new (o := .tup [.str z0]) hpm)
    have hm : (upd (upd H1 q (.met A.a_Statement___init__ a)) pm (.tup [.str z0])) q = some (.met A.a_Statement___init__ a) := same_new hpm _ _ upd_same
    refine ⟨hm, a, A.c_Return, dx, pm, A.x_Statement___init___1, A.x_Statement___init___2, _, [], [], rfl, mem, sm _ _ ha, T.e_Statement___init___1 _, T.e_Statement___init___2 _, fun _ h => (List.not_mem_nil h).elim, fun _ h => (List.not_mem_nil h).elim, by decide, by decide, ?_, ?_, fun ps pr H' h1 h2 h3 kb => ?_⟩
    · simp only [app_length, l0, l1]
      omega
    · exact (aln_app (aln_app (aln_by (by decide +kernel)) (aln_by (by decide +kernel))) hz0.2.1)
    rw [emp_app] at h3
    refine ⟨_, rfl, _, rfl, a, _, dx, _, rfl, h1, fc.cl, fc.na _ (by decide +kernel), (by show 7 < 1000; decide), ?_⟩
    have n1 : ps ≠ a := ne_of h2 h1 (by intro z; cases z)
    have n2 : pr ≠ a := ne_of h3 h1 (by intro z; cases z)
    refine k _ ⟨A.c_Return, dx, _, ps, pr, A.x_Statement___init___1, A.x_Statement___init___2, rfl, upd_same, rfl, (upd_ne n1).trans (h2), rfl, (upd_ne n2).trans (h3), rfl, T.e_Statement___init___1 _, rfl, T.e_Statement___init___2 _, rfl, ?_⟩ ?_
    · refine ⟨by show 1 ≤ 1; decide, by show 1 ≤ 40; decide, by show 1 ≤ 1; decide, by show 1 ≤ 5; decide, by show 1 ≤ 1; decide, by show 1 ≤ 2; decide, fun r hr => ?_⟩
      rw [List.mem_singleton.mp hr]
      refine ⟨?_, (aln_app (aln_by (by decide +kernel)) hz0.2.1)⟩
      simp only [app_length, l1]
      omega
    · intro b o nb e
      rw [upd_ne nb]
      exact kb _ _ nb (sm _ _ e)
end
end K04
set_option Elab.async false
set_option linter.all false
set_option maxRecDepth 100000
set_option maxHeartbeats 4000000
namespace K04
open PySem PySem.Spec PyProof.Rows L2 Mo
/-! ### drawn names -/
/-- begins with a letter, all letters and figures, at most n signs -/
def WordS (z : Str) (n : Nat) : Prop := z.cps.toList.headD 0 ∈ lets ∧ (∀ c ∈ z.cps.toList, c ∈ sgns) ∧ 1 ≤ z.length ∧ z.length ≤ n
theorem lets_sgns {c : Nat} (h : c ∈ lets) : c ∈ sgns := by
  have e : lets.all (fun c => decide (c ∈ sgns)) = true := by decide +kernel
  exact of_decide_eq_true (List.all_eq_true.mp e c h)
theorem sgns_aln {c : Nat} (h : c ∈ sgns) : Aln c = true := by
  have e : sgns.all Aln = true := by decide +kernel
  exact List.all_eq_true.mp e c h
theorem WordS.one {c : Nat} (hc : c ∈ lets) : WordS ⟨#[c]⟩ 1 := by
  refine ⟨hc, fun d hd => ?_, Nat.le_refl _, Nat.le_refl _⟩
  have : d = c := by simpa using hd
  rw [this]
  exact lets_sgns hc
theorem headD_app {a b : List Nat} (h : a ≠ []) : (a ++ b).headD 0 = a.headD 0 := by
  cases a with
  | nil => exact absurd rfl h
  | cons x l => rfl
theorem cps_ne {z : Str} (h : 1 ≤ z.length) : z.cps.toList ≠ [] := by
  intro e
  have : z.length = z.cps.toList.length := Array.length_toList.symm
  rw [e] at this
  simp at this
  omega
theorem WordS.add {z : Str} {n m : Nat} (h : WordS z n) {y : Str} (hy : ∀ c ∈ y.cps.toList, c ∈ sgns) (hm : y.length ≤ m) : WordS (z ++ y) (n + m) := by
  obtain ⟨h1, h2, h3, h4⟩ := h
  refine ⟨?_, fun d hd => ?_, ?_, ?_⟩
  · rw [cps_app, headD_app (cps_ne h3)]
    exact h1
  · rw [cps_app] at hd
    exact (List.mem_append.mp hd).elim (h2 d) (hy d)
  · rw [app_length]
    omega
  · rw [app_length]
    omega
theorem WordS.le {z : Str} {n m : Nat} (h : WordS z n) (e : n ≤ m) : WordS z m := ⟨h.1, h.2.1, h.2.2.1, by have := h.2.2.2; omega⟩
theorem WordS.name {z : Str} (h : WordS z 8) (hf : fixedB z = false) : NameT z := by
  obtain ⟨h1, h2, h3, h4⟩ := h
  refine ⟨?_, fun c hc => sgns_aln (h2 c hc), h4⟩
  show nameB z = true
  unfold nameB
  rw [hf, decide_eq_true (show 0 < z.length by omega), decide_eq_true h4, decide_eq_true h1, List.all_eq_true.mpr fun c hc => decide_eq_true (h2 c hc)]
  rfl
theorem name_by {z : Str} (h : (nameB z && z.cps.toList.all Aln) = true) : NameT z := by
  rw [Bool.and_eq_true] at h
  refine ⟨h.1, fun c hc => List.all_eq_true.mp h.2 c hc, ?_⟩
  have h := h.1
  unfold nameB at h
  simp only [Bool.and_eq_true, decide_eq_true_eq] at h
  exact h.1.1.1.2
theorem NameT.word {z : Str} (h : NameT z) : WordS z 8 ∧ fixedB z = false := by
  have h1 : nameB z = true := h.1
  unfold nameB at h1
  simp only [Bool.and_eq_true, decide_eq_true_eq, Bool.not_eq_true'] at h1
  obtain ⟨⟨⟨⟨a, b⟩, c⟩, d⟩, e⟩ := h1
  exact ⟨⟨d, fun x hx => of_decide_eq_true (List.all_eq_true.mp e x hx), a, b⟩, c⟩
/-- the begin of a name and a z -/
theorem cut_z {z : Str} (h : NameT z) {d : Int} (d0 : 0 ≤ d) (d7 : d < 7) : NameT (cutS z none (some (1 + d)) ++ "z") := by
  obtain ⟨⟨h1, h2, h3, h4⟩, _⟩ := h.word
  have e : (cutS z none (some (1 + d))).cps.toList = (z.cps.toList).take (min (1 + d).toNat z.length) := by
    show ((z.cps.toList.drop 0).take ((if 1 + d < 0 then (1 + d + (z.length : Int)).toNat else min (1 + d).toNat z.length) - 0)).toArray.toList = _
    rw [if_neg (by omega)]
    simp
  obtain ⟨c, l, hcl⟩ : ∃ c l, z.cps.toList = c :: l := by
    cases hz : z.cps.toList with
    | nil => exact absurd hz (cps_ne h3)
    | cons c l => exact ⟨c, l, rfl⟩
  obtain ⟨n, hn⟩ : ∃ n, min (1 + d).toNat z.length = n + 1 := ⟨min (1 + d).toNat z.length - 1, by omega⟩
  have e2 : (cutS z none (some (1 + d))).cps.toList = c :: l.take n := by
    rw [e, hcl, hn]
    rfl
  have len : (cutS z none (some (1 + d))).length ≤ 7 := by
    show (cutS z none (some (1 + d))).cps.size ≤ 7
    rw [← Array.length_toList, e, List.length_take]
    omega
  have w : WordS (cutS z none (some (1 + d))) 7 := by
    refine ⟨?_, fun x hx => ?_, ?_, len⟩
    · rw [e2]
      rw [hcl] at h1
      exact h1
    · rw [e] at hx
      exact h2 x (List.mem_of_mem_take hx)
    · show 1 ≤ (cutS z none (some (1 + d))).cps.size
      rw [← Array.length_toList, e2]
      simp
  have ez : ("z" : Str).cps.toList = [122] := by decide +kernel
  refine (w.add (m := 1) (y := "z") ?_ (Nat.le_refl _)).name ?_
  · intro c hc
    rw [ez] at hc
    rw [List.mem_singleton.mp hc]
    decide +kernel
  · have no : ∀ y : Str, y.cps.toList.getLast? ≠ some 122 → (cutS z none (some (1 + d)) ++ "z") ≠ y := by
      intro y hy e
      apply hy
      rw [← e, cps_app, ez]
      simp
    unfold fixedB
    rw [decide_eq_false (no "nothing" (by decide +kernel)), decide_eq_false (no "yes" (by decide +kernel))]
    rfl
section
variable {w : World} {K : PySem.W.Frag} {mg : Str → Option Value} {base : Heap} {A : Ads}
def spWord : Sp := fun vs H Q _ => ∃ a : Addr, vs = [.ref a] ∧ Src H a ∧ ∀ (z : Str) (H' : Hp), NameT z → Src H' a → KeepBut a H H' → Q (.str z) H'
abbrev abc : Str := "abcdefghijklmnopqrstuvwxyz"
abbrev fixed16 : List Str := ["call", "look", "put", "swap", "try", "into", "let", "if", "is", "else", "loop", "leave", "return", "joined", "nothin", "yes1"]
theorem fixed_names : ∀ z ∈ fixed16, NameT z := by
  have h : fixed16.all (fun z => nameB z && z.cps.toList.all Aln) = true := by decide +kernel
  exact fun z hz => name_by (List.all_eq_true.mp h z hz)
theorem ok_law_word (T : Txt K mg A) : FnOk P w K mg base CX0 2 A.a_law_word A.d_law_word ["_law_source_here"] spWord := by
  have nd := sc_law_word.nd
  refine T.f_law_word.ok sc_law_word (fun vs H Q E h => ?_) (fun cdv A' outer s H vs Q E hr h => ?_)
  · obtain ⟨a, rfl, _⟩ := h
    rfl
  · obtain ⟨a, rfl, src, k⟩ := h
    refine ⟨_, (pss_cons (ps_set (i := 1) nd rfl (Or.inl rfl) (pe_lst (pa_cons pe_str (pa_cons pe_str (pa_cons pe_str (pa_cons pe_str (pa_cons pe_str (pa_cons pe_str (pa_cons pe_str (pa_cons pe_str (pa_cons pe_str (pa_cons pe_str (pa_cons pe_str (pa_cons pe_str pa_nil))))))))))))))
      (pss_cons (ps_set (i := 1) nd rfl (Or.inl rfl) (pe_op op_cat (pv 1) (pe_lst (pa_cons pe_str (pa_cons pe_str (pa_cons pe_str (pa_cons pe_str pa_nil)))))))
      (pss_cons (ps_if (pt_cmpR op_eq (pe_call (ok_law_take T) (hr.mono (by decide)) (by rfl) T.m_law_take T.k_law_take T.v_law_take .nil pass0 (pa_cons (pv 0) (pa_cons pe_int pa_nil))) pe_int (nomark _)) (pss_one (ps_ret (pe_ix ix_list (pv 1) (pe_call (ok_law_take T) (hr.mono (by decide)) (by rfl) T.m_law_take T.k_law_take T.v_law_take .nil pass0 (pa_cons (pv 0) (pa_cons pe_int pa_nil))) (fun _ _ => rfl)))) pss_nil)
      (pss_cons (ps_set (i := 2) nd rfl (Or.inl rfl) pe_str)
      (pss_cons (ps_set (i := 3) nd rfl (Or.inl rfl) (pe_ix ix_str (pv 2) (pe_call (ok_law_take T) (hr.mono (by decide)) (by rfl) T.m_law_take T.k_law_take T.v_law_take .nil pass0 (pa_cons (pv 0) (pa_cons pe_int pa_nil))) (fun _ _ => rfl)))
      (pss_cons (ps_for PassesOwn.never rfl (pi_range1 (by rfl) T.b_range (pa_cons (pe_call (ok_law_take T) (hr.mono (by decide)) (by rfl) T.m_law_take T.k_law_take T.v_law_take .nil pass0 (pa_cons (pv 0) (pa_cons pe_int pa_nil))) pa_nil)) (pg_name (i := 4) nd rfl (Or.inl rfl)) (pss_one (ps_set (i := 3) nd rfl (Or.inl rfl) (pe_op op_add_str (pv 3) (pe_ix ix_str (pe_op op_add_str (pv 2) pe_str) (pe_call (ok_law_take T) (hr.mono (by decide)) (by rfl) T.m_law_take T.k_law_take T.v_law_take .nil pass0 (pa_cons (pv 0) (pa_cons pe_int pa_nil))) (fun _ _ => rfl))))))
      (pss_one (ps_ret (pe_ifExp (pt_cmpR op_in_seq (pv 3) (pe_lst (pa_cons pe_str (pa_cons pe_str pa_nil))) (by rfl)) (pe_op op_add_str (pv 3) pe_str) (pv 3)))))))))), ?_⟩
    refine ⟨(by show 12 ≤ sizeLine; decide), fun p hp => ?_⟩
    have s1 := same_new (o := .lst ([.str "call", .str "look", .str "put", .str "swap", .str "try", .str "into", .str "let", .str "if", .str "is", .str "else", .str "loop", .str "leave"])) hp
    refine ⟨_, rfl, (by show 4 ≤ sizeLine; decide), fun p2 hp2 => ?_⟩
    have s2 := s1.trans (same_new (o := .lst [.str "return", .str "joined", .str "nothin", .str "yes1"]) hp2)
    refine ⟨p, p2, _, _, rfl, rfl, same_new hp2 _ _ upd_same, upd_same, (by show 16 ≤ sizeLine; decide), fun p3 hp3 => ?_⟩
    have s3 := s2.trans (same_new (o := .lst (fixed16.map V.str)) hp3)
    have src3 := src.same s3
    have n3 : p3 ≠ a := (src.same s2).fresh hp3
    refine ⟨_, rfl, a, _, rfl, src3, by decide, by decide, fun d H4 d0 d1 src4 kb4 => ⟨rfl, _, rfl, ?_⟩⟩
    refine ite2 (fun hd => ?_) (fun hd => ?_)
    · refine ⟨_, rfl, _, rfl, a, _, rfl, src4, by decide, by decide, fun e H5 e0 e1 src5 kb5 => ?_⟩
      obtain ⟨z, hz, hm⟩ := at_in (l := fixed16.map V.str) e0 e1
      obtain ⟨y, hy, rfl⟩ := List.mem_map.mp hm
      refine ⟨p3, _, e, _, rfl, rfl, SqL.of (kb5 _ _ n3 (kb4 _ _ n3 upd_same)), hz, ?_⟩
      exact k y H5 (fixed_names y hy) src5 ((KeepBut.of_same s3).trans (kb4.trans kb5))
    · refine ⟨_, rfl, _, rfl, a, _, rfl, src4, by decide, by decide, fun e H5 e0 e1 src5 kb5 => ?_⟩
      obtain ⟨c, hc, cl⟩ := at_in (l := lets) e0 (by rw [show (lets.length : Int) = 26 from by decide +kernel]; exact e1)
      refine ⟨abc, e, c, rfl, rfl, (by decide), hc, ?_⟩
      have kbs : KeepBut a H H5 := (KeepBut.of_same s3).trans (kb4.trans kb5)
      refine ⟨_, rfl, a, _, rfl, src5, by decide, by decide, fun f H6 f0 f1 src6 kb6 => ⟨f, rfl, by omega, by omega, for_range (lo := 0) (n := f.toNat) (fun i σ H7 => ∃ (z : Str) (v4 : Option V), σ = [some (.ref a), some (.ref p3), some (.str abc), some (.str z), v4] ∧ WordS z (1 + i) ∧ Src H7 a ∧ KeepBut a H H7) ⟨_, _, rfl, WordS.one cl, src6, kbs.trans kb6⟩ ?_ ?_⟩⟩
      · rintro i σ H7 hi ⟨z, v4, rfl, wz, src7, kb7⟩
        refine ⟨_, rfl, _, rfl, _, _, rfl, rfl, (by decide), _, rfl, a, _, rfl, src7, by decide, by decide, fun g H8 g0 g1 src8 kb8 => ?_⟩
        obtain ⟨c2, hc2, cl2⟩ := at_in (l := sgns) g0 (by rw [show (sgns.length : Int) = 36 from by decide +kernel]; exact g1)
        refine ⟨_, g, c2, rfl, rfl, (by decide), hc2, z, ⟨#[c2]⟩, rfl, rfl, ?_, ?_⟩
        · have := wz.2.2.2
          rw [one_length]
          exact len5000 (by omega)
        · refine ⟨_, _, rfl, wz.add (m := 1) (fun x hx => ?_) (Nat.le_refl _), src8, kb7.trans kb8⟩
          have : x = c2 := by simpa using hx
          rw [this]
          exact cl2
      · rintro σ H7 ⟨z, v4, rfl, wz, src7, kb7⟩
        have w8 : WordS z 8 := wz.le (by omega)
        refine ⟨_, rfl, (by show 2 ≤ sizeLine; decide), fun q hq => ⟨q, _, rfl, Or.inl (SqL.of upd_same), rfl, rfl, _, rfl, ?_⟩⟩
        have kq := kb7.trans (KeepBut.of_same (same_new (o := .lst [.str "nothing", .str "yes"]) hq))
        have srq := src7.same (same_new (o := .lst [.str "nothing", .str "yes"]) hq)
        have fx : inV (.str z) [.str "nothing", .str "yes"] = fixedB z := inV_fixed z
        refine ite2 (fun h2 => ?_) (fun h2 => ?_)
        · have h2 : inV (.str z) [.str "nothing", .str "yes"] = true := h2
          rw [fx] at h2
          unfold fixedB at h2
          have nm : NameT (z ++ "0") := by
            rcases Bool.or_eq_true_iff.mp h2 with h2 | h2
            · rw [of_decide_eq_true h2]
              exact name_by (by decide +kernel)
            · rw [of_decide_eq_true h2]
              exact name_by (by decide +kernel)
          refine ⟨_, rfl, z, "0", rfl, rfl, ?_, k _ _ nm srq kq⟩
          have := w8.2.2.2
          exact len5000 (by show z.length + 1 ≤ 5000; omega)
        · have h2 : ¬ inV (.str z) [.str "nothing", .str "yes"] = true := h2
          have h2 := Bool.eq_false_iff.mpr h2
          rw [fx] at h2
          exact ⟨_, rfl, k z _ (w8.name h2) srq kq⟩
def spWords : Sp := fun vs H Q _ => ∃ (a : Addr) (m : Int), vs = [.ref a, .int m] ∧ Src H a ∧ 0 ≤ m ∧ m ≤ 7 ∧
  ∀ (p : Addr) (zs : List Str) (H' : Hp), H p = none → H' p = some (.lst (zs.map V.str)) → (zs.length : Int) = m → (∀ z ∈ zs, NameT z) → zs.Nodup → Src H' a → KeepBut a H H' → Q (.ref p) H'
abbrev eight : List Str := ["a", "b", "c", "d", "e", "f", "g", "h"]
theorem eight_names : ∀ z ∈ eight, NameT z := by
  have h : eight.all (fun z => nameB z && z.cps.toList.all Aln) = true := by decide +kernel
  exact fun z hz => name_by (List.all_eq_true.mp h z hz)
theorem nodup_len : ∀ {a b : List Str}, a.Nodup → a ⊆ b → a.length ≤ b.length
  | [], b, _, _ => Nat.zero_le _
  | x :: a, b, nd, sub => by
    have nd := List.nodup_cons.mp nd
    have hx : x ∈ b := sub List.mem_cons_self
    have h : a ⊆ b.erase x := fun y hy => by
      have hy2 := sub (List.mem_cons_of_mem _ hy)
      refine (List.mem_erase_of_ne ?_).mpr hy2
      rintro rfl
      exact nd.1 hy
    have := nodup_len nd.2 h
    rw [List.length_erase_of_mem hx] at this
    have : 0 < b.length := List.length_pos_of_mem hx
    rw [List.length_cons]
    omega
theorem eight_left {zs : List Str} (h : zs.length ≤ 7) : eight.filter (fun z => !decide (z ∈ zs)) ≠ [] := by
  intro e
  have sub : eight ⊆ zs := by
    intro z hz
    have := List.filter_eq_nil_iff.mp e z hz
    simpa using this
  have nd : eight.Nodup := by decide +kernel
  have := nodup_len nd sub
  have e8 : eight.length = 8 := rfl
  omega
theorem ok_law_words (T : Txt K mg A) : FnOk P w K mg base CX0 3 A.a_law_words A.d_law_words ["_law_source_here", "_law_many"] spWords := by
  have nd := sc_law_words.nd
  refine T.f_law_words.ok sc_law_words (fun vs H Q E h => ?_) (fun cdv A' outer s H vs Q E hr h => ?_)
  · obtain ⟨a, m, rfl, _⟩ := h
    rfl
  · obtain ⟨a, m, rfl, src, m0, m7, k⟩ := h
    -- from the test of the item on
    have last : ∃ t, PSs (cxOf CX0 P w K mg base nm_law_words "_law_words" (defScope st_law_words) A.a_law_words cdv A' outer s H E).nox ((forBody (stAt (defBody st_law_words) 1)).drop 2) t ∧ ∀ (D : Ends) (f : Addr) (i : Nat) (z : Str) (zs : List Str) (H4 : Hp) (v3 v5 : Option V), i < 7 → f ≠ a → H f = none → zs.length = i → (∀ z ∈ zs, NameT z) → zs.Nodup → NameT z → Src H4 a →
        (∀ b o, b ≠ a → b ≠ f → H b = some o → H4 b = some o) → H4 f = some (.lst (zs.map V.str)) →
        (∀ (σ : L2.St) (H5 : Hp), (∃ (ys : List Str) (v3 v4 v5 : Option V), σ = [some (.ref a), some (.int m), some (.ref f), v3, v4, v5] ∧ ys.length = i + 1 ∧ (∀ z ∈ ys, NameT z) ∧ ys.Nodup ∧ Src H5 a ∧ (∀ b o, b ≠ a → b ≠ f → H b = some o → H5 b = some o) ∧ H5 f = some (.lst (ys.map V.str))) → D.nx σ H5) →
        t D [some (.ref a), some (.int m), some (.ref f), v3, some (.str z), v5] H4 := by
      refine ⟨_, (pss_cons (ps_if (pt_cmpR op_in_seq (pv 4) (pv 2) (by rfl)) (pss_one (ps_set (i := 4) nd rfl (Or.inl rfl) (pe_ix ix_list (pe_lc (own := [("_law_mate", 5)]) (g := gName 5) rfl nd (pi_list (pe_lst (pa_cons pe_str (pa_cons pe_str (pa_cons pe_str (pa_cons pe_str (pa_cons pe_str (pa_cons pe_str (pa_cons pe_str (pa_cons pe_str pa_nil)))))))))) (blkOk_by (N := nm_law_words) (sc := defScope st_law_words) (by decide +kernel)) (fun _ _ _ _ _ => (pg_name (i := 5) nd rfl (Or.inl rfl))) (fun _ _ _ _ _ => (pts_one (pt_cmpR (show OpR _ _ (rIn K true) from op_notIn_seq) (pv 5) (pv 2) (by rfl)))) (fun _ _ _ _ _ => (pv 5))) pe_int (fun _ _ => rfl)))) pss_nil)
      (pss_one (ps_expr (pe_bm PySem.F.plainAttrs_list PySem.F.slot_list_append PySem.F.type_list_append mt_append (pv 2) (pa_cons (pv 4) pa_nil))))), fun D f i z zs H4 v3 v5 i7 nf hfn lz nz dz hz src4 kp hf4 q => ?_⟩
      have fin : ∀ (y : Str) (H5 : Hp) (v3 v5 : Option V), Same H4 H5 → NameT y → y ∉ zs → D.nx [some (.ref a), some (.int m), some (.ref f), v3, some (.str y), v5] (upd H5 f (.lst (zs.map V.str ++ [.str y]))) := by
        intro y H5 v3 v5 s5 hy ny
        refine q _ _ ⟨zs ++ [y], _, _, _, rfl, by rw [List.length_append, lz]; rfl, fun x hx => ?_, ?_, (src4.same s5).upd nf, fun b o n1 n2 e => ?_, ?_⟩
        · rcases List.mem_append.mp hx with hx | hx
          · exact nz x hx
          · rw [List.mem_singleton.mp hx]
            exact hy
        · rw [List.nodup_append]
          refine ⟨dz, by simp, fun x hx w hw e => ?_⟩
          rw [List.mem_singleton.mp hw] at e
          rw [e] at hx
          exact ny hx
        · rw [upd_ne n2]
          exact s5 _ _ (kp _ _ n1 n2 e)
        · rw [upd_same, List.map_append]
          rfl
      refine ⟨_, rfl, _, rfl, f, zs.map V.str, rfl, Or.inl (SqL.of hf4), rfl, all_flat_strs zs, _, rfl, ?_⟩
      have iv := inV_strs z zs
      refine ite2 (fun hin => ?_) (fun hin => ?_)
      · refine ⟨(by show 8 ≤ sizeLine; decide), fun q1 hq1 => ⟨q1, rfl, ⟨_, SqL.of upd_same⟩, fun D2 hD2 => lc_list (K := K) (a := q1) (xs := eight.map V.str) (fun j H5 => Same (upd H4 q1 (.lst (eight.map V.str))) H5 ∧ H5 D2 = some (.lst (((eight.take j).filter (fun z => !decide (z ∈ zs))).map V.str))) ⟨same_new hD2, upd_same⟩ (fun j H5 _ h => SqL.of (h.1 _ _ upd_same)) ?_ ?_⟩⟩
        · rintro j x H5 hx ⟨s5, h5⟩
          rw [List.getElem?_map] at hx
          obtain ⟨y, hy, rfl⟩ := Option.map_eq_some_iff.mp hx
          have s45 := (same_new (o := .lst (eight.map V.str)) hq1).trans s5
          refine ⟨rfl, _, rfl, _, rfl, f, zs.map V.str, rfl, Or.inl (SqL.of (s45 _ _ hf4)), rfl, all_flat_strs zs, _, rfl, ?_⟩
          have iv := inV_strs y zs
          have tk : (eight.take (j + 1)).filter (fun z => !decide (z ∈ zs)) = (eight.take j).filter (fun z => !decide (z ∈ zs)) ++ (if y ∈ zs then [] else [y]) := by
            rw [List.take_add_one, hy, List.filter_append]
            congr 1
            by_cases e : y ∈ zs <;> simp [e]
          refine ite2 (fun h => ?_) (fun h => ?_)
          · have h : (!inV (.str y) (zs.map V.str)) = true := h
            rw [iv] at h
            have hn : y ∉ zs := by simpa using h
            refine ⟨_, rfl, _, h5, ?_, ?_, ?_⟩
            · rw [List.length_map]
              exact lt5000 (Nat.lt_of_le_of_lt (List.length_filter_le _ _) (by rw [List.length_take]; show min j 8 < 5000; omega))
            · intro b o e
              rw [upd_ne (ne_of_none e hD2)]
              exact s5 _ _ e
            · rw [upd_same, tk, if_neg hn, List.map_append]
              rfl
          · have h : ¬ (!inV (.str y) (zs.map V.str)) = true := h
            rw [iv] at h
            have hn : y ∈ zs := by simpa using h
            refine ⟨s5, ?_⟩
            rw [h5, tk, if_pos hn, List.append_nil]
        · rintro H5 ⟨s5, h5⟩
          have ne := eight_left (zs := zs) (by omega)
          obtain ⟨y, ys, ey⟩ : ∃ y ys, eight.filter (fun z => !decide (z ∈ zs)) = y :: ys := by
            cases e : eight.filter (fun z => !decide (z ∈ zs)) with
            | nil => exact absurd e ne
            | cons y ys => exact ⟨y, ys, rfl⟩
          have hy : y ∈ eight ∧ y ∉ zs := by
            have : y ∈ eight.filter (fun z => !decide (z ∈ zs)) := by rw [ey]; exact List.mem_cons_self
            have := List.mem_filter.mp this
            exact ⟨this.1, by simpa using this.2⟩
          rw [List.take_of_length_le (by decide), ey] at h5
          have s45 := (same_new (o := .lst (eight.map V.str)) hq1).trans s5
          refine ⟨D2, _, _, .str y, rfl, rfl, SqL.of h5, atI_nat (j := 0) rfl, ?_⟩
          refine ⟨_, rfl, Or.inl ⟨rfl, _, SqL.of (s45 _ _ hf4)⟩, _, rfl, f, _, _, rfl, rfl, s45 _ _ hf4, ?_, fin y H5 _ _ s45 (eight_names y hy.1) hy.2⟩
          rw [List.length_map]
          exact lt5000 (by omega)
      · have hin : ¬ inV (.str z) (zs.map V.str) = true := hin
        rw [iv] at hin
        have hn : z ∉ zs := by simpa using hin
        refine ⟨_, rfl, Or.inl ⟨rfl, _, SqL.of hf4⟩, _, rfl, f, _, _, rfl, rfl, hf4, ?_, fin z H4 _ _ (Same.refl _) hz hn⟩
        rw [List.length_map]
        exact lt5000 (by omega)
    obtain ⟨t2, D2, rest2⟩ := last
    refine ⟨_, (pss_cons (ps_set (i := 2) nd rfl (Or.inr rfl) (pe_lst pa_nil))
      (pss_cons (ps_for PassesOwn.never rfl (pi_range1 (by rfl) T.b_range (pa_cons (pv 1) pa_nil)) (pg_name (i := 3) nd rfl (Or.inl rfl)) (pss_cons (ps_set (i := 4) nd rfl (Or.inl rfl) (pe_call (ok_law_word T) (hr.mono (by decide)) (by rfl) T.m_law_word T.k_law_word T.v_law_word .nil pass0 (pa_cons (pv 0) pa_nil)))
      (pss_cons (ps_if (PW.pt (pw_and (pt_cmpR (op_neD hr.units) (pv 2) (pe_lst pa_nil) (nomark _)) (pw_and1 (pt_cmpR op_eq (pe_call (ok_law_take T) (hr.mono (by decide)) (by rfl) T.m_law_take T.k_law_take T.v_law_take .nil pass0 (pa_cons (pv 0) (pa_cons pe_int pa_nil))) pe_int (nomark _))))) (pss_one (ps_set (i := 4) nd rfl (Or.inl rfl) (pe_op op_add_str (pe_slice sl_str (pe_ix ix_list (pv 2) (pe_un un_neg pe_int) (fun _ _ => rfl)) po_none (po_some (pe_op op_add pe_int (pe_call (ok_law_take T) (hr.mono (by decide)) (by rfl) T.m_law_take T.k_law_take T.v_law_take .nil pass0 (pa_cons (pv 0) (pa_cons pe_int pa_nil)))))) pe_str))) pss_nil)
      D2)))
      (pss_one (ps_ret (pv 2))))), ?_⟩
    refine ⟨Nat.zero_le _, fun f hf => ?_⟩
    have nf : f ≠ a := src.fresh hf
    have s1 := same_new (o := .lst []) hf
    refine ⟨_, rfl, m, rfl, by omega, by omega, for_range (lo := 0) (n := m.toNat) (fun i σ H2 => ∃ (zs : List Str) (v3 v4 v5 : Option V), σ = [some (.ref a), some (.int m), some (.ref f), v3, v4, v5] ∧ zs.length = i ∧ (∀ z ∈ zs, NameT z) ∧ zs.Nodup ∧ Src H2 a ∧
      (∀ b o, b ≠ a → b ≠ f → H b = some o → H2 b = some o) ∧ H2 f = some (.lst (zs.map V.str))) ⟨[], _, _, _, rfl, rfl, fun _ h => (List.not_mem_nil h).elim, List.nodup_nil, src.same s1, fun b o _ _ e => s1 _ _ e, upd_same⟩ ?_ ?_⟩
    · rintro i σ H2 hi ⟨zs, v3, v4, v5, rfl, lz, nz, dz, src2, kp, hff⟩
      refine ⟨_, rfl, a, rfl, src2, fun z H3 hz src3 kb3 => ?_⟩
      have hf3 := kb3 _ _ nf hff
      have kp3 : ∀ b o, b ≠ a → b ≠ f → H b = some o → H3 b = some o := fun b o n1 n2 e => kb3 _ _ n1 (kp b o n1 n2 e)
      refine ⟨_, rfl, Nat.zero_le _, fun q hq => ⟨.list (zs.map PyData.str), .list [], .lst (SqL.of (same_new hq _ _ hf3)) (dp_strs zs), .lst (SqL.of upd_same) .nil, shaped_strs fun y hy => AlnT.asc (nz y hy).2.1, by decide +kernel, _, rfl, ?_⟩⟩
      have s4 := same_new (o := .lst []) hq
      have src4 := src3.same s4
      have hf4 := s4 _ _ hf3
      have kp4 : ∀ b o, b ≠ a → b ≠ f → H b = some o → (upd H3 q (.lst [])) b = some o := fun b o n1 n2 e => s4 _ _ (kp3 b o n1 n2 e)
      refine ite2 (fun hne => ?_) (fun hne => ?_)
      · refine ⟨_, rfl, a, _, rfl, src4, by decide, by decide, fun d H5 d0 d1 src5 kb5 => ⟨rfl, _, rfl, ?_⟩⟩
        have hf5 := kb5 _ _ nf hf4
        have kp5 : ∀ b o, b ≠ a → b ≠ f → H b = some o → H5 b = some o := fun b o n1 n2 e => kb5 _ _ n1 (kp4 b o n1 n2 e)
        refine ite2 (fun _ => ?_) (fun _ => ?_)
        · obtain ⟨ys, y, ey⟩ : ∃ ys y, zs = ys ++ [y] := by
            rcases List.eq_nil_or_concat zs with e | ⟨ys, y, e⟩
            · subst e
              exact absurd hne (by decide +kernel)
            · exact ⟨ys, y, by rw [e, List.concat_eq_append]⟩
          have hy := nz y (by rw [ey]; simp)
          refine ⟨_, rfl, _, rfl, f, _, _, .str y, rfl, rfl, SqL.of hf5, ?_, ?_⟩
          · rw [ey, List.map_append]
            exact atI_last _ _
          refine ⟨_, rfl, a, _, rfl, src5, by decide, by decide, fun e H6 e0 e1 src6 kb6 => ⟨_, _, rfl, rfl, _, rfl, y, rfl, len5000 (by have := hy.2.2; omega), ?_⟩⟩
          have nz' := cut_z hy e0 e1
          refine ⟨_, _, rfl, rfl, len5000 (by have := nz'.2.2; rw [app_length] at this; omega), ?_⟩
          exact rest2 _ f i _ zs H6 _ _ (by omega) nf hf lz nz dz nz' src6 (fun b o n1 n2 e => kb6 _ _ n1 (kp5 b o n1 n2 e)) (kb6 _ _ nf hf5) fun σ H5 h => h
        · exact rest2 _ f i z zs H5 _ _ (by omega) nf hf lz nz dz hz src5 kp5 hf5 fun σ H5 h => h
      · exact rest2 _ f i z zs _ _ _ (by omega) nf hf lz nz dz hz src4 kp4 hf4 fun σ H5 h => h
    · rintro σ H2 ⟨zs, v3, v4, v5, rfl, lz, nz, dz, src2, kp, hff⟩
      refine ⟨_, rfl, k f zs H2 hf hff (by omega) nz dz src2 ?_⟩
      exact fun b o hb e => kp b o hb (ne_of_none e hf) e
end
end K04
set_option Elab.async false
set_option linter.all false
set_option maxRecDepth 100000
set_option maxHeartbeats 4000000
namespace K04
open PySem PySem.Spec PyProof.Rows L2 Mo
/-! ### trees of one line: the number of the kind, the words, the line -/
inductive One : Nat → List Str → Str → Prop where
  | look {c i : Str} (hc : NameT c) (hi : NameT i) : One 0 ["look", c, i] ("look " ++ c ++ " into " ++ i)
  | put {c o : Str} (hc : NameT c) (ho : OperT o) : One 1 ["put", c, o] ("put " ++ c ++ " " ++ o)
  | swap {c o i : Str} (hc : NameT c) (ho : OperT o) (hi : NameT i) : One 2 ["swap", c, o, i] ("swap " ++ c ++ " " ++ o ++ " into " ++ i)
  | try_ {c o n i : Str} (hc : NameT c) (ho : OperT o) (hn : OperT n) (hi : NameT i) : One 3 ["try", c, o, n, i] ("try " ++ c ++ " " ++ o ++ " " ++ n ++ " into " ++ i)
  | let_ {i o : Str} (hi : NameT i) (ho : OperT o) : One 4 ["let", i, o] ("let " ++ i ++ " " ++ o)
  | leave : One 5 ["leave"] "leave"
  | ret {o : Str} (ho : OperT o) : One 6 ["return", o] ("return " ++ o)
theorem One.line_ok {k : Nat} {xs : List Str} {line : Str} (h : One k xs line) : line.length ≤ 200 ∧ AlnT line := by
  have l1 : ("look " : Str).length = 5 := rfl
  have l2 : (" into " : Str).length = 6 := rfl
  have l3 : ("put " : Str).length = 4 := rfl
  have l4 : (" " : Str).length = 1 := rfl
  have l5 : ("swap " : Str).length = 5 := rfl
  have l6 : ("try " : Str).length = 4 := rfl
  have l7 : ("let " : Str).length = 4 := rfl
  have l8 : ("return " : Str).length = 7 := rfl
  have a : ∀ {x : Str}, x.cps.toList.all Aln = true → AlnT x := aln_by
  cases h with
  | look hc hi =>
    have := hc.2.2
    have := hi.2.2
    exact ⟨by simp only [app_length, l1, l2]; omega, aln_app (aln_app (aln_app (a (by decide +kernel)) hc.2.1) (a (by decide +kernel))) hi.2.1⟩
  | put hc ho =>
    have := hc.2.2
    have := ho.2.2
    exact ⟨by simp only [app_length, l3, l4]; omega, aln_app (aln_app (aln_app (a (by decide +kernel)) hc.2.1) (a (by decide +kernel))) ho.2.1⟩
  | swap hc ho hi =>
    have := hc.2.2
    have := ho.2.2
    have := hi.2.2
    exact ⟨by simp only [app_length, l5, l4, l2]; omega, aln_app (aln_app (aln_app (aln_app (aln_app (a (by decide +kernel)) hc.2.1) (a (by decide +kernel))) ho.2.1) (a (by decide +kernel))) hi.2.1⟩
  | try_ hc ho hn hi =>
    have := hc.2.2
    have := ho.2.2
    have := hn.2.2
    have := hi.2.2
    exact ⟨by simp only [app_length, l6, l4, l2]; omega, aln_app (aln_app (aln_app (aln_app (aln_app (aln_app (aln_app (a (by decide +kernel)) hc.2.1) (a (by decide +kernel))) ho.2.1) (a (by decide +kernel))) hn.2.1) (a (by decide +kernel))) hi.2.1⟩
  | let_ hi ho =>
    have := hi.2.2
    have := ho.2.2
    exact ⟨by simp only [app_length, l7, l4]; omega, aln_app (aln_app (aln_app (a (by decide +kernel)) hi.2.1) (a (by decide +kernel))) ho.2.1⟩
  | leave => exact ⟨by decide, a (by decide +kernel)⟩
  | ret ho =>
    have := ho.2.2
    exact ⟨by simp only [app_length, l8]; omega, aln_app (a (by decide +kernel)) ho.2.1⟩
theorem join1 (y x : Str) : Txt.join y [x] = x := by rw [TL.join_eq]; rfl
theorem join2 (y x z : Str) : Txt.join y [x, z] = x ++ y ++ z := by rw [TL.join_eq]; rfl
theorem join3 (y x z u : Str) : Txt.join y [x, z, u] = x ++ y ++ (z ++ y ++ u) := by rw [TL.join_eq]; rfl
theorem join4 (y x z u v : Str) : Txt.join y [x, z, u, v] = x ++ y ++ (z ++ y ++ (u ++ y ++ v)) := by rw [TL.join_eq]; rfl
theorem app_assoc (x y z : Str) : x ++ y ++ z = x ++ (y ++ z) := str_ext (by simp only [cp, cps_app, List.append_assoc])
section
variable {w : World} {K : PySem.W.Frag} {mg : Str → Option Value} {base : Heap} {A : Ads}
theorem slX_ok {K : PySem.W.Frag} {H : Hp} {p : Addr} {xs : List V} {lo hi : Option Int} {Q : VK} (t : SqT K H p xs) (h : ∀ p1 H1, Same H H1 → SqT K H1 p1 (cutV xs lo hi) → Q (.ref p1) H1) : rSlX1 K (.ref p) lo hi H Q :=
  ⟨p, xs, rfl, t, fun e => h p H (Same.refl H) (by rw [e]; exact t), fun p1 ob hd hp => h p1 _ (same_new hp) (.inl (.inr ⟨ob, upd_same⟩))⟩
end
end K04
set_option Elab.async false
set_option linter.all false
set_option maxRecDepth 100000
set_option maxHeartbeats 4000000
namespace K04
open PySem PySem.Spec PyProof.Rows L2 Mo
/-! ### trees of statements -/
inductive Tr where
  | one (k : Nat) (xs : List Str) (line : Str)
  | cond (l r : Str) (b e : List Tr)
  | loop (b : List Tr)
  | joined (b : List Tr)
def Tr.inner : Tr → List Tr
  | .one _ _ _ => []
  | .cond _ _ b _ => b
  | .loop b => b
  | .joined b => b
def Tr.outer : Tr → List Tr
  | .cond _ _ _ e => e
  | _ => []
def Tr.line : Tr → Str
  | .one _ _ l => l
  | .cond l r _ _ => "if " ++ l ++ " is " ++ r
  | .loop _ => "loop"
  | .joined _ => "joined"
def Tr.k : Tr → Nat
  | .one k _ _ => k
  | .cond _ _ _ _ => 7
  | .loop _ => 8
  | .joined _ => 9
/-- its word -/
def Tr.word : Tr → Str
  | .one _ xs _ => xs.headD ""
  | .cond _ _ _ _ => "if"
  | .loop _ => "loop"
  | .joined _ => "joined"
/-- the rows behind an else -/
def elseR (e : List Tr) (rs : List Str) : List Str := match e with
  | [] => []
  | _ :: _ => ("else" : Str) :: ind rs
mutual
def rowsT : Tr → List Str
  | .one _ _ l => [l]
  | .cond l r b e => ("if " ++ l ++ " is " ++ r) :: (ind (rowsB b) ++ elseR e (rowsB e))
  | .loop b => ("loop" : Str) :: (ind (rowsB b) ++ [])
  | .joined b => ("joined" : Str) :: (ind (rowsB b) ++ [])
def rowsB : List Tr → List Str
  | [] => []
  | t :: ts => rowsT t ++ rowsB ts
end
mutual
def amT : Tr → Nat
  | .one _ _ _ => 1
  | .cond _ _ b e => 1 + (amB b + amB e)
  | .loop b => 1 + (amB b + 0)
  | .joined b => 1 + (amB b + 0)
def amB : List Tr → Nat
  | [] => 0
  | t :: ts => amT t + amB ts
end
mutual
def lvT : Tr → Nat
  | .one _ _ _ => 1
  | .cond _ _ b e => 1 + max (lvB b) (lvB e)
  | .loop b => 1 + max (lvB b) 0
  | .joined b => 1 + max (lvB b) 0
def lvB : List Tr → Nat
  | [] => 0
  | t :: ts => max (lvT t) (lvB ts)
end
theorem rowsT_eq (t : Tr) : rowsT t = t.line :: (ind (rowsB t.inner) ++ elseR t.outer (rowsB t.outer)) := by
  cases t <;> simp [rowsT, Tr.line, Tr.inner, Tr.outer, rowsB, elseR, ind]
theorem amT_eq (t : Tr) : amT t = 1 + (amB t.inner + amB t.outer) := by
  cases t <;> simp [amT, Tr.inner, Tr.outer, amB]
theorem lvT_eq (t : Tr) : lvT t = 1 + max (lvB t.inner) (lvB t.outer) := by
  cases t <;> simp [lvT, Tr.inner, Tr.outer, lvB]
theorem rowsB_nil : rowsB [] = [] := by simp [rowsB]
theorem rowsB_cons (t : Tr) (ts : List Tr) : rowsB (t :: ts) = rowsT t ++ rowsB ts := by rw [rowsB]
theorem amB_nil : amB [] = 0 := by simp [amB]
theorem amB_cons (t : Tr) (ts : List Tr) : amB (t :: ts) = amT t + amB ts := by rw [amB]
theorem lvB_nil : lvB [] = 0 := by simp [lvB]
theorem lvB_cons (t : Tr) (ts : List Tr) : lvB (t :: ts) = max (lvT t) (lvB ts) := by rw [lvB]
theorem rowsB_app : ∀ a b : List Tr, rowsB (a ++ b) = rowsB a ++ rowsB b
  | [], b => by rw [rowsB_nil]; rfl
  | t :: a, b => by rw [List.cons_append, rowsB_cons, rowsB_cons, rowsB_app a b, List.append_assoc]
theorem amB_app : ∀ a b : List Tr, amB (a ++ b) = amB a + amB b
  | [], b => by rw [amB_nil, Nat.zero_add]; rfl
  | t :: a, b => by rw [List.cons_append, amB_cons, amB_cons, amB_app a b, Nat.add_assoc]
theorem lvB_app : ∀ a b : List Tr, lvB (a ++ b) = max (lvB a) (lvB b)
  | [], b => by rw [lvB_nil]; simp
  | t :: a, b => by rw [List.cons_append, lvB_cons, lvB_cons, lvB_app a b]; omega
theorem lvT_pos (t : Tr) : 1 ≤ lvT t := by rw [lvT_eq]; omega
theorem amT_pos (t : Tr) : 1 ≤ amT t := by rw [amT_eq]; omega
theorem lvB_mem : ∀ {ts : List Tr} {t : Tr}, t ∈ ts → lvT t ≤ lvB ts
  | [], _, h => (List.not_mem_nil h).elim
  | u :: ts, t, h => by
    rw [lvB_cons]
    rcases List.mem_cons.mp h with rfl | h
    · omega
    · have := lvB_mem h
      omega
theorem amB_mem : ∀ {ts : List Tr} {t : Tr}, t ∈ ts → amT t ≤ amB ts
  | [], _, h => (List.not_mem_nil h).elim
  | u :: ts, t, h => by
    rw [amB_cons]
    rcases List.mem_cons.mp h with rfl | h
    · omega
    · have := amB_mem h
      omega
theorem amB_len : ∀ ts : List Tr, ts.length ≤ amB ts
  | [] => by simp
  | t :: ts => by
    have := amB_len ts
    have := amT_pos t
    rw [amB_cons, List.length_cons]
    omega
/-! ### trees as data of the program -/
mutual
inductive TrAt (K : PySem.W.Frag) (H : Hp) : Addr → Tr → Prop where
  | one {p : Addr} {k : Nat} {xs : List Str} {line : Str} (h : H p = some (.tup (xs.map V.str))) (o : One k xs line) : TrAt K H p (.one k xs line)
  | cond {p pb pe : Addr} {l r : Str} {b e : List Tr} {ps qs : List Addr} (h : H p = some (.tup [.str "if", .str l, .str r, .ref pb, .ref pe])) (hl : OperT l) (hr : OperT r) (hb : SqT K H pb (ps.map V.ref)) (he : SqT K H pe (qs.map V.ref)) (tb : TrsAt K H ps b) (te : TrsAt K H qs e) : TrAt K H p (.cond l r b e)
  | loop {p pb : Addr} {b : List Tr} {ps : List Addr} (h : H p = some (.tup [.str "loop", .ref pb])) (hb : SqT K H pb (ps.map V.ref)) (tb : TrsAt K H ps b) : TrAt K H p (.loop b)
  | joined {p pb : Addr} {b : List Tr} {ps : List Addr} (h : H p = some (.tup [.str "joined", .ref pb])) (hb : SqT K H pb (ps.map V.ref)) (tb : TrsAt K H ps b) : TrAt K H p (.joined b)
inductive TrsAt (K : PySem.W.Frag) (H : Hp) : List Addr → List Tr → Prop where
  | nil : TrsAt K H [] []
  | cons {p : Addr} {t : Tr} {ps : List Addr} {ts : List Tr} (h : TrAt K H p t) (r : TrsAt K H ps ts) : TrsAt K H (p :: ps) (t :: ts)
end
mutual
theorem TrAt.mv {K : PySem.W.Frag} {H H' : Hp} (k : KpT H H') : ∀ {p : Addr} {t : Tr}, TrAt K H p t → TrAt K H' p t
  | _, _, .one h o => .one (k.t _ _ h) o
  | _, _, .cond h hl hr hb he tb te => .cond (k.t _ _ h) hl hr (k.sq hb) (k.sq he) (TrsAt.mv k tb) (TrsAt.mv k te)
  | _, _, .loop h hb tb => .loop (k.t _ _ h) (k.sq hb) (TrsAt.mv k tb)
  | _, _, .joined h hb tb => .joined (k.t _ _ h) (k.sq hb) (TrsAt.mv k tb)
theorem TrsAt.mv {K : PySem.W.Frag} {H H' : Hp} (k : KpT H H') : ∀ {ps : List Addr} {ts : List Tr}, TrsAt K H ps ts → TrsAt K H' ps ts
  | _, _, .nil => .nil
  | _, _, .cons h r => .cons (TrAt.mv k h) (TrsAt.mv k r)
end
theorem TrsAt.len {K : PySem.W.Frag} {H : Hp} : ∀ {ps : List Addr} {ts : List Tr}, TrsAt K H ps ts → ps.length = ts.length
  | _, _, .nil => rfl
  | _, _, .cons _ r => congrArg Nat.succ (TrsAt.len r)
theorem TrsAt.get {K : PySem.W.Frag} {H : Hp} : ∀ {ps : List Addr} {ts : List Tr}, TrsAt K H ps ts → ∀ {i : Nat} {p : Addr}, ps[i]? = some p → ∃ t, ts[i]? = some t ∧ TrAt K H p t
  | _, _, .nil, i, p, h => by simp at h
  | _, _, .cons h r, 0, p, e => by
    cases e
    exact ⟨_, rfl, h⟩
  | _, _, .cons h r, i + 1, p, e => TrsAt.get r (i := i) e
theorem TrsAt.app {K : PySem.W.Frag} {H : Hp} : ∀ {ps qs : List Addr} {ts us : List Tr}, TrsAt K H ps ts → TrsAt K H qs us → TrsAt K H (ps ++ qs) (ts ++ us)
  | _, _, _, _, .nil, r => r
  | _, _, _, _, .cons h r, s => .cons h (TrsAt.app r s)
theorem TrsAt.take {K : PySem.W.Frag} {H : Hp} : ∀ {ps : List Addr} {ts : List Tr}, TrsAt K H ps ts → ∀ n, TrsAt K H (ps.take n) (ts.take n)
  | _, _, .nil, n => by simp; exact .nil
  | _, _, .cons h r, 0 => .nil
  | _, _, .cons h r, n + 1 => .cons h (TrsAt.take r n)
theorem TrsAt.drop {K : PySem.W.Frag} {H : Hp} : ∀ {ps : List Addr} {ts : List Tr}, TrsAt K H ps ts → ∀ n, TrsAt K H (ps.drop n) (ts.drop n)
  | _, _, .nil, n => by simp; exact .nil
  | _, _, .cons h r, 0 => .cons h r
  | _, _, .cons h r, n + 1 => TrsAt.drop r n
/-- a body at pb -/
def BodyAt (K : PySem.W.Frag) (H : Hp) (pb : Addr) (ts : List Tr) : Prop := ∃ ps : List Addr, SqT K H pb (ps.map V.ref) ∧ TrsAt K H ps ts
theorem BodyAt.mv {K : PySem.W.Frag} {H H' : Hp} {pb : Addr} {ts : List Tr} (h : BodyAt K H pb ts) (k : KpT H H') : BodyAt K H' pb ts := let ⟨ps, a, b⟩ := h; ⟨ps, k.sq a, b.mv k⟩
/-! ### statements made of trees -/
def sdT (t : Tr) : Sd := ⟨t.k, amT t, lvT t, rowsT t⟩
mutual
inductive StT (K : PySem.W.Frag) (A : Ads) (H : Hp) : Addr → Tr → Prop where
  | mk {q : Addr} {t : Tr} {bs os : List Addr} (s : StAt K A H q (sdT t) bs os) (b : StsT K A H bs t.inner) (o : StsT K A H os t.outer) : StT K A H q t
inductive StsT (K : PySem.W.Frag) (A : Ads) (H : Hp) : List Addr → List Tr → Prop where
  | nil : StsT K A H [] []
  | cons {p : Addr} {t : Tr} {ps : List Addr} {ts : List Tr} (h : StT K A H p t) (r : StsT K A H ps ts) : StsT K A H (p :: ps) (t :: ts)
end
mutual
theorem StT.mv {K : PySem.W.Frag} {A : Ads} {H H' : Hp} (k : KpT H H') : ∀ {p : Addr} {t : Tr}, StT K A H p t → StT K A H' p t
  | _, _, .mk s b o => .mk (s.mv k) (StsT.mv k b) (StsT.mv k o)
theorem StsT.mv {K : PySem.W.Frag} {A : Ads} {H H' : Hp} (k : KpT H H') : ∀ {ps : List Addr} {ts : List Tr}, StsT K A H ps ts → StsT K A H' ps ts
  | _, _, .nil => .nil
  | _, _, .cons h r => .cons (StT.mv k h) (StsT.mv k r)
end
theorem StT.at {K : PySem.W.Frag} {A : Ads} {H : Hp} {q : Addr} {t : Tr} (h : StT K A H q t) : ∃ bs os, StAt K A H q (sdT t) bs os ∧ StsT K A H bs t.inner ∧ StsT K A H os t.outer := by
  cases h with
  | mk s b o => exact ⟨_, _, s, b, o⟩
theorem StsT.len {K : PySem.W.Frag} {A : Ads} {H : Hp} : ∀ {ps : List Addr} {ts : List Tr}, StsT K A H ps ts → ps.length = ts.length
  | _, _, .nil => rfl
  | _, _, .cons _ r => congrArg Nat.succ (StsT.len r)
theorem StsT.get {K : PySem.W.Frag} {A : Ads} {H : Hp} : ∀ {ps : List Addr} {ts : List Tr}, StsT K A H ps ts → ∀ {i : Nat} {p : Addr}, ps[i]? = some p → ∃ t, ts[i]? = some t ∧ StT K A H p t
  | _, _, .nil, i, p, h => by simp at h
  | _, _, .cons h r, 0, p, e => by
    cases e
    exact ⟨_, rfl, h⟩
  | _, _, .cons h r, i + 1, p, e => StsT.get r (i := i) e
theorem StsT.app {K : PySem.W.Frag} {A : Ads} {H : Hp} : ∀ {ps qs : List Addr} {ts us : List Tr}, StsT K A H ps ts → StsT K A H qs us → StsT K A H (ps ++ qs) (ts ++ us)
  | _, _, _, _, .nil, r => r
  | _, _, _, _, .cons h r, s => .cons h (StsT.app r s)
/-- as parts -/
def partsOf (ps : List Addr) (ts : List Tr) : List (Addr × Sd) := ps.zip (ts.map sdT)
theorem StsT.parts {K : PySem.W.Frag} {A : Ads} {H : Hp} : ∀ {ps : List Addr} {ts : List Tr}, StsT K A H ps ts → PartsAt K A H (partsOf ps ts)
  | _, _, .nil => fun q h => (List.not_mem_nil h).elim
  | _, _, .cons h r => by
    intro q hq
    rcases List.mem_cons.mp hq with rfl | hq
    · obtain ⟨bs, os, s, _, _⟩ := h.at
      exact ⟨bs, os, s⟩
    · exact StsT.parts r q hq
theorem StsT.sums {K : PySem.W.Frag} {A : Ads} {H : Hp} : ∀ {ps : List Addr} {ts : List Tr}, StsT K A H ps ts → refsOf (partsOf ps ts) = ps.map V.ref ∧ sumA (partsOf ps ts) = amB ts ∧ maxL (partsOf ps ts) = lvB ts ∧ flatR (partsOf ps ts) = rowsB ts ∧ (partsOf ps ts = [] ↔ ts = [])
  | _, _, .nil => by
    refine ⟨rfl, ?_, ?_, ?_, ?_⟩
    · rw [amB_nil]; rfl
    · rw [lvB_nil]; rfl
    · rw [rowsB_nil]; rfl
    · exact ⟨fun _ => rfl, fun _ => rfl⟩
  | p :: ps, t :: ts, .cons h r => by
    obtain ⟨h1, h2, h3, h4, _⟩ := StsT.sums r
    have e : partsOf (p :: ps) (t :: ts) = (p, sdT t) :: partsOf ps ts := rfl
    refine ⟨?_, ?_, ?_, ?_, ?_⟩
    · rw [e]
      show V.ref p :: refsOf (partsOf ps ts) = _
      rw [h1]
      rfl
    · rw [e, amB_cons, ← h2]
      simp [sumA, sdT]
    · rw [e, lvB_cons, ← h3]
      rfl
    · rw [e, rowsB_cons, ← h4]
      rfl
    · rw [e]
      constructor <;> intro z <;> cases z
end K04
set_option Elab.async false
set_option linter.all false
set_option maxRecDepth 100000
set_option maxHeartbeats 4000000
namespace K04
open PySem PySem.Spec PyProof.Rows L2 Mo
theorem cond_line {l r : Str} (hl : OperT l) (hr : OperT r) : ("if " ++ l ++ " is " ++ r : Str).length ≤ 200 ∧ AlnT ("if " ++ l ++ " is " ++ r) := by
  have l1 : ("if " : Str).length = 3 := rfl
  have l2 : (" is " : Str).length = 4 := rfl
  have := hl.2.2
  have := hr.2.2
  exact ⟨by simp only [app_length, l1, l2]; omega, aln_app (aln_app (aln_app (aln_by (by decide +kernel)) hl.2.1) (aln_by (by decide +kernel))) hr.2.1⟩
section
variable {w : World} {K : PySem.W.Frag} {mg : Str → Option Value} {base : Heap} {A : Ads}
def spHead (K : PySem.W.Frag) : Sp := fun vs H Q _ => ∃ (p : Addr) (t : Tr), vs = [.ref p] ∧ TrAt K H p t ∧ ∀ H', Same H H' → Q (.str t.line) H'
theorem ok_law_head (T : Txt K mg A) : FnOk P w K mg base CX0 1 A.a_law_head A.d_law_head ["_law_tree"] (spHead K) := by
  have nd := sc_law_head.nd
  refine T.f_law_head.ok sc_law_head (fun vs H Q E h => ?_) (fun cdv A' outer s H vs Q E hr h => ?_)
  · obtain ⟨p, t, rfl, _⟩ := h
    rfl
  · obtain ⟨p, t, rfl, tr, q⟩ := h
    refine ⟨_, (pss_cons (ps_if (pt_cmpR op_eq (pe_ix ix_tup (pv 0) pe_int (fun _ _ => rfl)) pe_str (nomark _)) (pss_one (ps_ret (pe_op op_add_str (pe_op op_add_str (pe_op op_add_str pe_str (pe_ix ix_tup (pv 0) pe_int (fun _ _ => rfl))) pe_str) (pe_ix ix_tup (pv 0) pe_int (fun _ _ => rfl))))) pss_nil)
      (pss_cons (ps_if (pt_cmpR op_in_seq (pe_ix ix_tup (pv 0) pe_int (fun _ _ => rfl)) (pe_lst (pa_cons pe_str (pa_cons pe_str pa_nil))) (by rfl)) (pss_one (ps_ret (pe_ix ix_tup (pv 0) pe_int (fun _ _ => rfl)))) pss_nil)
      (pss_cons (ps_if (pt_cmpR op_in_seq (pe_ix ix_tup (pv 0) pe_int (fun _ _ => rfl)) (pe_lst (pa_cons pe_str (pa_cons pe_str (pa_cons pe_str pa_nil)))) (by rfl)) (pss_one (ps_ret (pe_op op_add_str (pe_op op_add_str (pe_join pe_str (pe_callTy call_list_of (by rfl) T.b_list (by decide +kernel) (pa_cons (pe_slice sl_tupX (pv 0) po_none (po_some (pe_un un_neg pe_int))) pa_nil))) pe_str) (pe_ix ix_tup (pv 0) (pe_un un_neg pe_int) (fun _ _ => rfl))))) pss_nil)
      (pss_one (ps_ret (pe_join pe_str (pe_callTy call_list_of (by rfl) T.b_list (by decide +kernel) (pa_cons (pv 0) pa_nil)))))))), ?_⟩
    cases tr with
    | @cond _ pb pe l r b e ps qs hp hl hr' hb he tb te =>
      have hq : SqT K H p [.str "if", .str l, .str r, .ref pb, .ref pe] := SqT.of hp
      have lo := (cond_line hl hr').1
      rw [app_length, app_length, app_length] at lo
      refine ⟨_, rfl, p, _, _, _, rfl, rfl, hq, atI_nat (j := 0) rfl, rfl, _, rfl, ?_⟩
      refine ⟨_, rfl, p, _, _, _, rfl, rfl, hq, atI_nat (j := 1) rfl, _, _, rfl, rfl, len5000 (by omega), _, _, rfl, rfl, len5000 (by rw [app_length]; omega), _, rfl, p, _, _, _, rfl, rfl, hq, atI_nat (j := 2) rfl, _, _, rfl, rfl, len5000 (by rw [app_length, app_length]; omega), q H (Same.refl H)⟩
    | @loop _ pb b ps hp hb tb =>
      have hq : SqT K H p [.str "loop", .ref pb] := SqT.of hp
      refine ⟨_, rfl, p, _, _, _, rfl, rfl, hq, atI_nat (j := 0) rfl, rfl, _, rfl, ?_⟩
      refine ⟨_, rfl, p, _, _, _, rfl, rfl, hq, atI_nat (j := 0) rfl, (by show 2 ≤ sizeLine; decide), fun q1 n1 => ⟨q1, _, rfl, Or.inl (SqL.of upd_same), rfl, rfl, _, rfl, ?_⟩⟩
      have s1 := same_new (o := .lst [.str "loop", .str "joined"]) n1
      exact ⟨_, rfl, p, _, _, _, rfl, rfl, (KpT.of_same s1).sq hq, atI_nat (j := 0) rfl, q _ s1⟩
    | @joined _ pb b ps hp hb tb =>
      have hq : SqT K H p [.str "joined", .ref pb] := SqT.of hp
      refine ⟨_, rfl, p, _, _, _, rfl, rfl, hq, atI_nat (j := 0) rfl, rfl, _, rfl, ?_⟩
      refine ⟨_, rfl, p, _, _, _, rfl, rfl, hq, atI_nat (j := 0) rfl, (by show 2 ≤ sizeLine; decide), fun q1 n1 => ⟨q1, _, rfl, Or.inl (SqL.of upd_same), rfl, rfl, _, rfl, ?_⟩⟩
      have s1 := same_new (o := .lst [.str "loop", .str "joined"]) n1
      exact ⟨_, rfl, p, _, _, _, rfl, rfl, (KpT.of_same s1).sq hq, atI_nat (j := 0) rfl, q _ s1⟩
    | @one _ k xs line hp one =>
    have q : ∀ H', Same H H' → Q (.str line) H' := q
    have lo := one.line_ok
    have hq : SqT K H p (xs.map V.str) := SqT.of hp
    have lsp : (" " : Str).length = 1 := rfl
    cases one with
    | @look c i hc hi =>
      refine ⟨_, rfl, p, _, _, _, rfl, rfl, hq, atI_nat (j := 0) rfl, rfl, _, rfl, ?_⟩
      refine ⟨_, rfl, p, _, _, _, rfl, rfl, hq, atI_nat (j := 0) rfl, (by show 2 ≤ sizeLine; decide), fun q1 n1 => ⟨q1, _, rfl, Or.inl (SqL.of upd_same), rfl, rfl, _, rfl, ?_⟩⟩
      have s1 := same_new (o := .lst [.str "loop", .str "joined"]) n1
      refine ⟨_, rfl, p, _, _, _, rfl, rfl, (KpT.of_same s1).sq hq, atI_nat (j := 0) rfl, (by show 3 ≤ sizeLine; decide), fun q2 n2 => ⟨q2, _, rfl, Or.inl (SqL.of upd_same), rfl, rfl, _, rfl, ?_⟩⟩
      have s2 := s1.trans (same_new (o := .lst [.str "look", .str "swap", .str "try"]) n2)
      have := hc.2.2
      have := hi.2.2
      have lw : ("look" : Str).length = 4 := rfl
      have wd : ("look " : Str) = "look" ++ " " := str_ext (by decide +kernel)
      have e : Txt.join " " ["look", c] ++ " into " ++ i = ("look " : Str) ++ c ++ " into " ++ i := by
        rw [join2, wd]
        try simp only [app_assoc]
      have ll := lo.1
      rw [← e, app_length, app_length] at ll
      refine ⟨⟨_, rfl⟩, _, rfl, 1, rfl, -1, rfl, slX_ok ((KpT.of_same s2).sq hq) fun p1 H3 s3 h3 => ?_⟩
      refine ⟨p1, _, rfl, .inr h3, fun l hl => ⟨" ", l, ["look", c], rfl, rfl, .inl (SqL.of upd_same), by simp only [List.map_cons, List.map_nil, List.sum_cons, List.sum_nil, List.length_cons, List.length_nil, lw, lsp]; omega, ?_⟩⟩
      have s4 := (s2.trans s3).trans (same_new (o := .lst ((["look", c] : List Str).map V.str)) hl)
      refine ⟨_, _, rfl, rfl, len5000 (by omega), _, rfl, 1, rfl, p, _, _, _, rfl, rfl, (KpT.of_same s4).sq hq, rfl, _, _, rfl, rfl, len5000 (by rw [app_length]; omega), ?_⟩
      have r := q _ s4
      rw [← e] at r
      exact r
    | @put c o hc ho =>
      refine ⟨_, rfl, p, _, _, _, rfl, rfl, hq, atI_nat (j := 0) rfl, rfl, _, rfl, ?_⟩
      refine ⟨_, rfl, p, _, _, _, rfl, rfl, hq, atI_nat (j := 0) rfl, (by show 2 ≤ sizeLine; decide), fun q1 n1 => ⟨q1, _, rfl, Or.inl (SqL.of upd_same), rfl, rfl, _, rfl, ?_⟩⟩
      have s1 := same_new (o := .lst [.str "loop", .str "joined"]) n1
      refine ⟨_, rfl, p, _, _, _, rfl, rfl, (KpT.of_same s1).sq hq, atI_nat (j := 0) rfl, (by show 3 ≤ sizeLine; decide), fun q2 n2 => ⟨q2, _, rfl, Or.inl (SqL.of upd_same), rfl, rfl, _, rfl, ?_⟩⟩
      have s2 := s1.trans (same_new (o := .lst [.str "look", .str "swap", .str "try"]) n2)
      have := hc.2.2
      have := ho.2.2
      have lw : ("put" : Str).length = 3 := rfl
      have wd : ("put " : Str) = "put" ++ " " := str_ext (by decide +kernel)
      have e : Txt.join " " ["put", c, o] = ("put " : Str) ++ c ++ " " ++ o := by
        rw [join3, wd]
        try simp only [app_assoc]
      refine ⟨⟨_, rfl⟩, _, rfl, p, _, rfl, .inr ((KpT.of_same s2).sq hq), fun l hl => ⟨" ", l, ["put", c, o], rfl, rfl, .inl (SqL.of upd_same), by simp only [List.map_cons, List.map_nil, List.sum_cons, List.sum_nil, List.length_cons, List.length_nil, lw, lsp]; omega, ?_⟩⟩
      have r := q _ (s2.trans (same_new (o := .lst ((["put", c, o] : List Str).map V.str)) hl))
      rw [← e] at r
      exact r
    | @swap c o i hc ho hi =>
      refine ⟨_, rfl, p, _, _, _, rfl, rfl, hq, atI_nat (j := 0) rfl, rfl, _, rfl, ?_⟩
      refine ⟨_, rfl, p, _, _, _, rfl, rfl, hq, atI_nat (j := 0) rfl, (by show 2 ≤ sizeLine; decide), fun q1 n1 => ⟨q1, _, rfl, Or.inl (SqL.of upd_same), rfl, rfl, _, rfl, ?_⟩⟩
      have s1 := same_new (o := .lst [.str "loop", .str "joined"]) n1
      refine ⟨_, rfl, p, _, _, _, rfl, rfl, (KpT.of_same s1).sq hq, atI_nat (j := 0) rfl, (by show 3 ≤ sizeLine; decide), fun q2 n2 => ⟨q2, _, rfl, Or.inl (SqL.of upd_same), rfl, rfl, _, rfl, ?_⟩⟩
      have s2 := s1.trans (same_new (o := .lst [.str "look", .str "swap", .str "try"]) n2)
      have := hc.2.2
      have := ho.2.2
      have := hi.2.2
      have lw : ("swap" : Str).length = 4 := rfl
      have wd : ("swap " : Str) = "swap" ++ " " := str_ext (by decide +kernel)
      have e : Txt.join " " ["swap", c, o] ++ " into " ++ i = ("swap " : Str) ++ c ++ " " ++ o ++ " into " ++ i := by
        rw [join3, wd]
        try simp only [app_assoc]
      have ll := lo.1
      rw [← e, app_length, app_length] at ll
      refine ⟨⟨_, rfl⟩, _, rfl, 1, rfl, -1, rfl, slX_ok ((KpT.of_same s2).sq hq) fun p1 H3 s3 h3 => ?_⟩
      refine ⟨p1, _, rfl, .inr h3, fun l hl => ⟨" ", l, ["swap", c, o], rfl, rfl, .inl (SqL.of upd_same), by simp only [List.map_cons, List.map_nil, List.sum_cons, List.sum_nil, List.length_cons, List.length_nil, lw, lsp]; omega, ?_⟩⟩
      have s4 := (s2.trans s3).trans (same_new (o := .lst ((["swap", c, o] : List Str).map V.str)) hl)
      refine ⟨_, _, rfl, rfl, len5000 (by omega), _, rfl, 1, rfl, p, _, _, _, rfl, rfl, (KpT.of_same s4).sq hq, rfl, _, _, rfl, rfl, len5000 (by rw [app_length]; omega), ?_⟩
      have r := q _ s4
      rw [← e] at r
      exact r
    | @try_ c o n i hc ho hn hi =>
      refine ⟨_, rfl, p, _, _, _, rfl, rfl, hq, atI_nat (j := 0) rfl, rfl, _, rfl, ?_⟩
      refine ⟨_, rfl, p, _, _, _, rfl, rfl, hq, atI_nat (j := 0) rfl, (by show 2 ≤ sizeLine; decide), fun q1 n1 => ⟨q1, _, rfl, Or.inl (SqL.of upd_same), rfl, rfl, _, rfl, ?_⟩⟩
      have s1 := same_new (o := .lst [.str "loop", .str "joined"]) n1
      refine ⟨_, rfl, p, _, _, _, rfl, rfl, (KpT.of_same s1).sq hq, atI_nat (j := 0) rfl, (by show 3 ≤ sizeLine; decide), fun q2 n2 => ⟨q2, _, rfl, Or.inl (SqL.of upd_same), rfl, rfl, _, rfl, ?_⟩⟩
      have s2 := s1.trans (same_new (o := .lst [.str "look", .str "swap", .str "try"]) n2)
      have := hc.2.2
      have := ho.2.2
      have := hn.2.2
      have := hi.2.2
      have lw : ("try" : Str).length = 3 := rfl
      have wd : ("try " : Str) = "try" ++ " " := str_ext (by decide +kernel)
      have e : Txt.join " " ["try", c, o, n] ++ " into " ++ i = ("try " : Str) ++ c ++ " " ++ o ++ " " ++ n ++ " into " ++ i := by
        rw [join4, wd]
        try simp only [app_assoc]
      have ll := lo.1
      rw [← e, app_length, app_length] at ll
      refine ⟨⟨_, rfl⟩, _, rfl, 1, rfl, -1, rfl, slX_ok ((KpT.of_same s2).sq hq) fun p1 H3 s3 h3 => ?_⟩
      refine ⟨p1, _, rfl, .inr h3, fun l hl => ⟨" ", l, ["try", c, o, n], rfl, rfl, .inl (SqL.of upd_same), by simp only [List.map_cons, List.map_nil, List.sum_cons, List.sum_nil, List.length_cons, List.length_nil, lw, lsp]; omega, ?_⟩⟩
      have s4 := (s2.trans s3).trans (same_new (o := .lst ((["try", c, o, n] : List Str).map V.str)) hl)
      refine ⟨_, _, rfl, rfl, len5000 (by omega), _, rfl, 1, rfl, p, _, _, _, rfl, rfl, (KpT.of_same s4).sq hq, rfl, _, _, rfl, rfl, len5000 (by rw [app_length]; omega), ?_⟩
      have r := q _ s4
      rw [← e] at r
      exact r
    | @let_ i o hi ho =>
      refine ⟨_, rfl, p, _, _, _, rfl, rfl, hq, atI_nat (j := 0) rfl, rfl, _, rfl, ?_⟩
      refine ⟨_, rfl, p, _, _, _, rfl, rfl, hq, atI_nat (j := 0) rfl, (by show 2 ≤ sizeLine; decide), fun q1 n1 => ⟨q1, _, rfl, Or.inl (SqL.of upd_same), rfl, rfl, _, rfl, ?_⟩⟩
      have s1 := same_new (o := .lst [.str "loop", .str "joined"]) n1
      refine ⟨_, rfl, p, _, _, _, rfl, rfl, (KpT.of_same s1).sq hq, atI_nat (j := 0) rfl, (by show 3 ≤ sizeLine; decide), fun q2 n2 => ⟨q2, _, rfl, Or.inl (SqL.of upd_same), rfl, rfl, _, rfl, ?_⟩⟩
      have s2 := s1.trans (same_new (o := .lst [.str "look", .str "swap", .str "try"]) n2)
      have := hi.2.2
      have := ho.2.2
      have lw : ("let" : Str).length = 3 := rfl
      have wd : ("let " : Str) = "let" ++ " " := str_ext (by decide +kernel)
      have e : Txt.join " " ["let", i, o] = ("let " : Str) ++ i ++ " " ++ o := by
        rw [join3, wd]
        try simp only [app_assoc]
      refine ⟨⟨_, rfl⟩, _, rfl, p, _, rfl, .inr ((KpT.of_same s2).sq hq), fun l hl => ⟨" ", l, ["let", i, o], rfl, rfl, .inl (SqL.of upd_same), by simp only [List.map_cons, List.map_nil, List.sum_cons, List.sum_nil, List.length_cons, List.length_nil, lw, lsp]; omega, ?_⟩⟩
      have r := q _ (s2.trans (same_new (o := .lst ((["let", i, o] : List Str).map V.str)) hl))
      rw [← e] at r
      exact r
    | leave =>
      refine ⟨_, rfl, p, _, _, _, rfl, rfl, hq, atI_nat (j := 0) rfl, rfl, _, rfl, ?_⟩
      refine ⟨_, rfl, p, _, _, _, rfl, rfl, hq, atI_nat (j := 0) rfl, (by show 2 ≤ sizeLine; decide), fun q1 n1 => ⟨q1, _, rfl, Or.inl (SqL.of upd_same), rfl, rfl, _, rfl, ?_⟩⟩
      have s1 := same_new (o := .lst [.str "loop", .str "joined"]) n1
      refine ⟨_, rfl, p, _, _, _, rfl, rfl, (KpT.of_same s1).sq hq, atI_nat (j := 0) rfl, (by show 3 ≤ sizeLine; decide), fun q2 n2 => ⟨q2, _, rfl, Or.inl (SqL.of upd_same), rfl, rfl, _, rfl, ?_⟩⟩
      have s2 := s1.trans (same_new (o := .lst [.str "look", .str "swap", .str "try"]) n2)
      have lw : ("leave" : Str).length = 5 := rfl
      have e : Txt.join " " ["leave"] = "leave" := join1 _ _
      refine ⟨⟨_, rfl⟩, _, rfl, p, _, rfl, .inr ((KpT.of_same s2).sq hq), fun l hl => ⟨" ", l, ["leave"], rfl, rfl, .inl (SqL.of upd_same), by simp only [List.map_cons, List.map_nil, List.sum_cons, List.sum_nil, List.length_cons, List.length_nil, lw, lsp]; omega, ?_⟩⟩
      have r := q _ (s2.trans (same_new (o := .lst ((["leave"] : List Str).map V.str)) hl))
      rw [← e] at r
      exact r
    | @ret o ho =>
      refine ⟨_, rfl, p, _, _, _, rfl, rfl, hq, atI_nat (j := 0) rfl, rfl, _, rfl, ?_⟩
      refine ⟨_, rfl, p, _, _, _, rfl, rfl, hq, atI_nat (j := 0) rfl, (by show 2 ≤ sizeLine; decide), fun q1 n1 => ⟨q1, _, rfl, Or.inl (SqL.of upd_same), rfl, rfl, _, rfl, ?_⟩⟩
      have s1 := same_new (o := .lst [.str "loop", .str "joined"]) n1
      refine ⟨_, rfl, p, _, _, _, rfl, rfl, (KpT.of_same s1).sq hq, atI_nat (j := 0) rfl, (by show 3 ≤ sizeLine; decide), fun q2 n2 => ⟨q2, _, rfl, Or.inl (SqL.of upd_same), rfl, rfl, _, rfl, ?_⟩⟩
      have s2 := s1.trans (same_new (o := .lst [.str "look", .str "swap", .str "try"]) n2)
      have := ho.2.2
      have lw : ("return" : Str).length = 6 := rfl
      have wd : ("return " : Str) = "return" ++ " " := str_ext (by decide +kernel)
      have e : Txt.join " " ["return", o] = ("return " : Str) ++ o := by
        rw [join2, wd]
        try simp only [app_assoc]
      refine ⟨⟨_, rfl⟩, _, rfl, p, _, rfl, .inr ((KpT.of_same s2).sq hq), fun l hl => ⟨" ", l, ["return", o], rfl, rfl, .inl (SqL.of upd_same), by simp only [List.map_cons, List.map_nil, List.sum_cons, List.sum_nil, List.length_cons, List.length_nil, lw, lsp]; omega, ?_⟩⟩
      have r := q _ (s2.trans (same_new (o := .lst ((["return", o] : List Str).map V.str)) hl))
      rw [← e] at r
      exact r
/-- the bodies of a tree, in a list -/
def spBodies (K : PySem.W.Frag) : Sp := fun vs H Q _ => ∃ (p : Addr) (t : Tr), vs = [.ref p] ∧ TrAt K H p t ∧ ∀ (l pb pe : Addr) (H' : Hp), Same H H' → H l = none → H' l = some (.lst [.ref pb, .ref pe]) → BodyAt K H' pb t.inner → BodyAt K H' pe t.outer → Q (.ref l) H'
theorem ok_law_bodies (T : Txt K mg A) : FnOk P w K mg base CX0 1 A.a_law_bodies A.d_law_bodies ["_law_tree"] (spBodies K) := by
  have nd := sc_law_bodies.nd
  refine T.f_law_bodies.ok sc_law_bodies (fun vs H Q E h => ?_) (fun cdv A' outer s H vs Q E hr h => ?_)
  · obtain ⟨p, t, rfl, _⟩ := h
    rfl
  · obtain ⟨p, t, rfl, tr, q⟩ := h
    refine ⟨_, (pss_cons (ps_if (pt_cmpR op_eq (pe_ix ix_tup (pv 0) pe_int (fun _ _ => rfl)) pe_str (nomark _)) (pss_one (ps_ret (pe_lst (pa_cons (pe_ix ix_tup (pv 0) pe_int (fun _ _ => rfl)) (pa_cons (pe_ix ix_tup (pv 0) pe_int (fun _ _ => rfl)) pa_nil))))) pss_nil)
      (pss_one (ps_ret (pe_ifExp (pt_cmpR op_in_seq (pe_ix ix_tup (pv 0) pe_int (fun _ _ => rfl)) (pe_lst (pa_cons pe_str (pa_cons pe_str pa_nil))) (by rfl)) (pe_lst (pa_cons (pe_ix ix_tup (pv 0) pe_int (fun _ _ => rfl)) (pa_cons (pe_tup pa_nil) pa_nil))) (pe_lst (pa_cons (pe_tup pa_nil) (pa_cons (pe_tup pa_nil) pa_nil))))))), ?_⟩
    -- two empty bodies
    have none2 : ∀ {xs : List V} {w0 : Str}, H p = some (.tup (.str w0 :: xs)) → t.inner = [] → t.outer = [] → ∀ H1, Same H H1 → ∀ t1, H1 t1 = none → ∀ t2, (upd H1 t1 (.tup [])) t2 = none → ∀ l, (upd (upd H1 t1 (.tup [])) t2 (.tup [])) l = none → Q (.ref l) (upd (upd (upd H1 t1 (.tup [])) t2 (.tup [])) l (.lst [.ref t1, .ref t2])) := by
      intro xs w0 hp e1 e2 H1 s1 t1 n1 t2 n2 l n3
      have s2 := same_new (o := .tup []) n1
      have s3 := same_new (o := .tup []) n2
      have s4 := same_new (o := .lst [.ref t1, .ref t2]) n3
      refine q l t1 t2 _ (((s1.trans s2).trans s3).trans s4) ((s1.trans (s2.trans s3)).free n3) upd_same ?_ ?_
      · rw [e1]
        exact ⟨[], SqT.of (s4 _ _ (s3 _ _ upd_same)), .nil⟩
      · rw [e2]
        exact ⟨[], SqT.of (s4 _ _ upd_same), .nil⟩
    cases tr with
    | @cond _ pb pe l r b e ps qs hp hl hr' hb he tb te =>
      have hq : SqT K H p [.str "if", .str l, .str r, .ref pb, .ref pe] := SqT.of hp
      refine ⟨_, rfl, p, _, _, _, rfl, rfl, hq, atI_nat (j := 0) rfl, rfl, _, rfl, ?_⟩
      refine ⟨_, rfl, p, _, _, _, rfl, rfl, hq, atI_nat (j := 3) rfl, _, rfl, p, _, _, _, rfl, rfl, hq, atI_nat (j := 4) rfl, (by show 2 ≤ sizeLine; decide), fun l n => ?_⟩
      have s1 := same_new (o := .lst [.ref pb, .ref pe]) n
      have k1 := KpT.of_same s1
      exact q l pb pe _ s1 n upd_same ⟨ps, k1.sq hb, tb.mv k1⟩ ⟨qs, k1.sq he, te.mv k1⟩
    | @loop _ pb b ps hp hb tb =>
      have hq : SqT K H p [.str "loop", .ref pb] := SqT.of hp
      refine ⟨_, rfl, p, _, _, _, rfl, rfl, hq, atI_nat (j := 0) rfl, rfl, _, rfl, ?_⟩
      refine ⟨_, rfl, p, _, _, _, rfl, rfl, hq, atI_nat (j := 0) rfl, (by show 2 ≤ sizeLine; decide), fun q1 n1 => ⟨q1, _, rfl, Or.inl (SqL.of upd_same), rfl, rfl, _, rfl, ?_⟩⟩
      have s1 := same_new (o := .lst [.str "loop", .str "joined"]) n1
      refine ⟨_, rfl, p, _, _, _, rfl, rfl, (KpT.of_same s1).sq hq, atI_nat (j := 1) rfl, (by show 0 ≤ sizeLine; decide), fun t1 m1 => ⟨(by show 2 ≤ sizeLine; decide), fun l n => ?_⟩⟩
      have s2 := same_new (o := .tup []) m1
      have s3 := same_new (o := .lst [.ref pb, .ref t1]) n
      have k1 := KpT.of_same ((s1.trans s2).trans s3)
      exact q l pb t1 _ ((s1.trans s2).trans s3) ((s1.trans s2).free n) upd_same ⟨ps, k1.sq hb, tb.mv k1⟩ ⟨[], SqT.of (s3 _ _ upd_same), .nil⟩
    | @joined _ pb b ps hp hb tb =>
      have hq : SqT K H p [.str "joined", .ref pb] := SqT.of hp
      refine ⟨_, rfl, p, _, _, _, rfl, rfl, hq, atI_nat (j := 0) rfl, rfl, _, rfl, ?_⟩
      refine ⟨_, rfl, p, _, _, _, rfl, rfl, hq, atI_nat (j := 0) rfl, (by show 2 ≤ sizeLine; decide), fun q1 n1 => ⟨q1, _, rfl, Or.inl (SqL.of upd_same), rfl, rfl, _, rfl, ?_⟩⟩
      have s1 := same_new (o := .lst [.str "loop", .str "joined"]) n1
      refine ⟨_, rfl, p, _, _, _, rfl, rfl, (KpT.of_same s1).sq hq, atI_nat (j := 1) rfl, (by show 0 ≤ sizeLine; decide), fun t1 m1 => ⟨(by show 2 ≤ sizeLine; decide), fun l n => ?_⟩⟩
      have s2 := same_new (o := .tup []) m1
      have s3 := same_new (o := .lst [.ref pb, .ref t1]) n
      have k1 := KpT.of_same ((s1.trans s2).trans s3)
      exact q l pb t1 _ ((s1.trans s2).trans s3) ((s1.trans s2).free n) upd_same ⟨ps, k1.sq hb, tb.mv k1⟩ ⟨[], SqT.of (s3 _ _ upd_same), .nil⟩
    | @one _ k xs line hp one =>
      have s1 : ∀ {q1 : Addr}, H q1 = none → Same H (upd H q1 (.lst [.str "loop", .str "joined"])) := fun n => same_new n
      cases one <;> (
        have hq := SqT.of (K := K) hp
        refine ⟨_, rfl, p, _, _, _, rfl, rfl, hq, atI_nat (j := 0) rfl, rfl, _, rfl, ?_⟩
        refine ⟨_, rfl, p, _, _, _, rfl, rfl, hq, atI_nat (j := 0) rfl, (by show 2 ≤ sizeLine; decide), fun q1 n1 => ⟨q1, _, rfl, Or.inl (SqL.of upd_same), rfl, rfl, _, rfl, ?_⟩⟩
        exact ⟨(by show 0 ≤ sizeLine; decide), fun t1 m1 => ⟨(by show 0 ≤ sizeLine; decide), fun t2 m2 => ⟨(by show 2 ≤ sizeLine; decide), fun l n => none2 hp rfl rfl _ (s1 n1) t1 m1 t2 m2 l n⟩⟩⟩)
end
end K04
set_option Elab.async false
set_option linter.all false
set_option maxRecDepth 100000
set_option maxHeartbeats 4000000
namespace K04
open PySem PySem.Spec PyProof.Rows L2 Mo
/-! ### trees as data -/
mutual
def dataT : Tr → PyData
  | .one _ xs _ => .tuple (xs.map PyData.str)
  | .cond l r b e => .tuple [.str "if", .str l, .str r, .tuple (dataB b), .tuple (dataB e)]
  | .loop b => .tuple [.str "loop", .tuple (dataB b)]
  | .joined b => .tuple [.str "joined", .tuple (dataB b)]
def dataB : List Tr → List PyData
  | [] => []
  | t :: ts => dataT t :: dataB ts
end
mutual
theorem TrAt.dp {K : PySem.W.Frag} {H : Hp} : ∀ {p : Addr} {t : Tr}, TrAt K H p t → Dp K H (.ref p) (dataT t)
  | _, _, .one h o => by rw [dataT]; exact .tup (SqT.of h) (dp_strs _)
  | _, _, .cond h hl hr hb he tb te => by
    rw [dataT]
    exact .tup (SqT.of h) (.cons (.str _) (.cons (.str _) (.cons (.str _) (.cons (.tup hb (TrsAt.dp tb)) (.cons (.tup he (TrsAt.dp te)) .nil)))))
  | _, _, .loop h hb tb => by
    rw [dataT]
    exact .tup (SqT.of h) (.cons (.str _) (.cons (.tup hb (TrsAt.dp tb)) .nil))
  | _, _, .joined h hb tb => by
    rw [dataT]
    exact .tup (SqT.of h) (.cons (.str _) (.cons (.tup hb (TrsAt.dp tb)) .nil))
theorem TrsAt.dp {K : PySem.W.Frag} {H : Hp} : ∀ {ps : List Addr} {ts : List Tr}, TrsAt K H ps ts → DpAll K H (ps.map V.ref) (dataB ts)
  | _, _, .nil => by rw [dataB]; exact .nil
  | _, _, .cons h r => by rw [dataB]; exact .cons (TrAt.dp h) (TrsAt.dp r)
end
theorem One.words {k : Nat} {xs : List Str} {line : Str} (o : One k xs line) : ∀ x ∈ xs, AlnT x := by
  intro x hx
  have a : ∀ {x : Str}, x.cps.toList.all Aln = true → AlnT x := aln_by
  cases o <;> simp only [List.mem_cons, List.not_mem_nil, or_false] at hx
  case look hc hi => rcases hx with rfl | rfl | rfl <;> first | exact a (by decide +kernel) | exact hc.2.1 | exact hi.2.1
  case put hc ho => rcases hx with rfl | rfl | rfl <;> first | exact a (by decide +kernel) | exact hc.2.1 | exact ho.2.1
  case swap hc ho hi => rcases hx with rfl | rfl | rfl | rfl <;> first | exact a (by decide +kernel) | exact hc.2.1 | exact ho.2.1 | exact hi.2.1
  case try_ hc ho hn hi => rcases hx with rfl | rfl | rfl | rfl | rfl <;> first | exact a (by decide +kernel) | exact hc.2.1 | exact ho.2.1 | exact hn.2.1 | exact hi.2.1
  case let_ hi ho => rcases hx with rfl | rfl | rfl <;> first | exact a (by decide +kernel) | exact hi.2.1 | exact ho.2.1
  case leave => rw [hx]; exact a (by decide +kernel)
  case ret ho => rcases hx with rfl | rfl <;> first | exact a (by decide +kernel) | exact ho.2.1
mutual
theorem TrAt.pl {K : PySem.W.Frag} {H : Hp} : ∀ {p : Addr} {t : Tr}, TrAt K H p t → Pl (dataT t)
  | _, _, .one h o => by rw [dataT, Pl]; exact plAll_strs o.words
  | _, _, .cond h hl hr hb he tb te => by
    rw [dataT]
    simp only [Pl, PlAll]
    exact ⟨aln_by (by decide +kernel), hl.2.1, hr.2.1, TrsAt.pl tb, TrsAt.pl te, trivial⟩
  | _, _, .loop h hb tb => by
    rw [dataT]
    simp only [Pl, PlAll]
    exact ⟨aln_by (by decide +kernel), TrsAt.pl tb, trivial⟩
  | _, _, .joined h hb tb => by
    rw [dataT]
    simp only [Pl, PlAll]
    exact ⟨aln_by (by decide +kernel), TrsAt.pl tb, trivial⟩
theorem TrsAt.pl {K : PySem.W.Frag} {H : Hp} : ∀ {ps : List Addr} {ts : List Tr}, TrsAt K H ps ts → PlAll (dataB ts)
  | _, _, .nil => by rw [dataB, PlAll]; trivial
  | _, _, .cons h r => by rw [dataB, PlAll]; exact ⟨TrAt.pl h, TrsAt.pl r⟩
end
theorem depth_strs : ∀ xs : List Str, PyData.depthAll (xs.map PyData.str) = 0
  | [] => rfl
  | x :: xs => by
    show max 0 (PyData.depthAll (xs.map PyData.str)) = 0
    rw [depth_strs xs]
    rfl
mutual
theorem depthT : ∀ t : Tr, (dataT t).depth ≤ 2 * lvT t
  | .one k xs l => by
    rw [dataT, lvT]
    show PyData.depthAll (xs.map PyData.str) + 1 ≤ 2
    rw [depth_strs]
    decide
  | .cond l r b e => by
    have h1 := depthB b
    have h2 := depthB e
    rw [dataT, lvT]
    show max 0 (max 0 (max 0 (max (PyData.depthAll (dataB b) + 1) (max (PyData.depthAll (dataB e) + 1) 0)))) + 1 ≤ _
    omega
  | .loop b => by
    have h1 := depthB b
    rw [dataT, lvT]
    show max 0 (max (PyData.depthAll (dataB b) + 1) 0) + 1 ≤ _
    omega
  | .joined b => by
    have h1 := depthB b
    rw [dataT, lvT]
    show max 0 (max (PyData.depthAll (dataB b) + 1) 0) + 1 ≤ _
    omega
theorem depthB : ∀ ts : List Tr, PyData.depthAll (dataB ts) ≤ 2 * lvB ts
  | [] => by
    rw [dataB]
    exact Nat.zero_le _
  | t :: ts => by
    have h1 := depthT t
    have h2 := depthB ts
    rw [dataB, lvB]
    show max (dataT t).depth (PyData.depthAll (dataB ts)) ≤ _
    omega
end
theorem body_shaped {K : PySem.W.Frag} {H : Hp} {ps : List Addr} {ts : List Tr} (h : TrsAt K H ps ts) (hl : lvB ts ≤ 20) : SeqAt.shaped (.tuple (dataB ts)) = true := by
  unfold SeqAt.shaped
  rw [Bool.and_eq_true]
  refine ⟨lay_plain (by rw [Pl]; exact h.pl), decide_eq_true ?_⟩
  have := depthB ts
  show PyData.depthAll (dataB ts) + 1 ≤ 64
  omega
theorem eqv_empty (ts : List Tr) : PyData.eqv (.tuple (dataB ts)) (.tuple []) = decide (ts.length = 0) := by
  cases ts with
  | nil => rw [dataB]; decide +kernel
  | cons t ts =>
    rw [dataB]
    simp [PyData.eqv, PyData.eqvAll]
/-! ### lines -/
theorem TrAt.line_ok {K : PySem.W.Frag} {H : Hp} {p : Addr} {t : Tr} (h : TrAt K H p t) : t.line.length ≤ 200 ∧ AlnT t.line := by
  cases h with
  | one h o => exact o.line_ok
  | cond h hl hr _ _ _ _ => exact cond_line hl hr
  | loop _ _ _ => exact ⟨by show 4 ≤ 200; decide, show AlnT ("loop" : Str) from aln_by (by decide +kernel)⟩
  | joined _ _ _ => exact ⟨by show 6 ≤ 200; decide, show AlnT ("joined" : Str) from aln_by (by decide +kernel)⟩
mutual
theorem rowsT_len : ∀ t : Tr, (rowsT t).length + 1 ≤ 2 * amT t
  | .one _ _ _ => by
    rw [rowsT, amT]
    show 2 ≤ 2
    decide
  | .cond l r b e => by
    have h1 := rowsB_len b
    have h2 := rowsB_len e
    rw [rowsT, amT, List.length_cons, List.length_append]
    have e1 : (ind (rowsB b)).length = (rowsB b).length := by simp [ind]
    have e2 : (elseR e (rowsB e)).length ≤ 2 * amB e := by
      cases e with
      | nil => exact Nat.zero_le _
      | cons t ts =>
        have e3 : (elseR (t :: ts) (rowsB (t :: ts))).length = (rowsB (t :: ts)).length + 1 := by simp [elseR, ind]
        rw [e3]
        rw [List.length_cons] at h2
        omega
    omega
  | .loop b => by
    have h1 := rowsB_len b
    rw [rowsT, amT]
    simp [ind]
    omega
  | .joined b => by
    have h1 := rowsB_len b
    rw [rowsT, amT]
    simp [ind]
    omega
theorem rowsB_len : ∀ ts : List Tr, (rowsB ts).length + ts.length ≤ 2 * amB ts
  | [] => by
    rw [rowsB]
    exact Nat.zero_le _
  | t :: ts => by
    have h1 := rowsT_len t
    have h2 := rowsB_len ts
    rw [rowsB, amB, List.length_append, List.length_cons]
    omega
end
/-- a row further in -/
def pre (x : Str) (rs : List Str) : List Str := rs.map fun r => x ++ r
theorem pre_ind (x : Str) (rs : List Str) : pre x (ind rs) = pre (x ++ "  ") rs := by
  unfold pre ind
  rw [List.map_map]
  refine List.map_congr_left fun r _ => ?_
  show x ++ ("  " ++ r) = x ++ "  " ++ r
  rw [app_assoc]
theorem pre_app (x : Str) (a b : List Str) : pre x (a ++ b) = pre x a ++ pre x b := List.map_append
theorem pre_rowsT (x : Str) (t : Tr) : pre x (rowsT t) = (x ++ t.line) :: (pre (x ++ "  ") (rowsB t.inner) ++ (if t.outer.length = 0 then [] else (x ++ "else") :: pre (x ++ "  ") (rowsB t.outer))) := by
  rw [rowsT_eq]
  show (x ++ t.line) :: pre x (ind (rowsB t.inner) ++ elseR t.outer (rowsB t.outer)) = _
  rw [pre_app, pre_ind]
  cases h : t.outer with
  | nil => rfl
  | cons u us =>
    rw [if_neg (by simp)]
    show _ :: (_ ++ ((x ++ "else") :: pre x (ind (rowsB (u :: us))))) = _
    rw [pre_ind]
theorem pre_len (x : Str) (rs : List Str) : (pre x rs).length = rs.length := by simp [pre]
section
variable {w : World} {K : PySem.W.Frag} {mg : Str → Option Value} {base : Heap} {A : Ads}
def spLines (K : PySem.W.Frag) (n : Nat) : Sp := fun vs H Q _ => ∃ (a : Addr) (ps : List Addr) (ts : List Tr) (x : Str), vs = [.ref a, .str x] ∧ Sq K H a (ps.map V.ref) ∧ TrsAt K H ps ts ∧ lvB ts < n ∧ lvB ts ≤ 20 ∧ amB ts ≤ 1000 ∧ x.length + 2 * lvB ts ≤ 100 ∧
  ∀ (l : Addr) (H' : Hp), Same H H' → H l = none → H' l = some (.lst ((pre x (rowsB ts)).map V.str)) → Q (.ref l) H'
theorem lines_step (T : Txt K mg A) (n : Nat) (ih : FnOk P w K mg base CX0 (n + 2) A.a_law_lines A.d_law_lines ["_law_trees", "_law_indent"] (spLines K n)) :
    FnOk P w K mg base CX0 (n + 3) A.a_law_lines A.d_law_lines ["_law_trees", "_law_indent"] (spLines K (n + 1)) := by
  have nd := sc_law_lines.nd
  refine T.f_law_lines.ok sc_law_lines (fun vs H Q E h => ?_) (fun cdv A' outer s H vs Q E hr h => ?_)
  · obtain ⟨a, ps, ts, x, rfl, _⟩ := h
    rfl
  · obtain ⟨a, ps, ts, x, rfl, hs, tr, ln, l20, am, xl, q⟩ := h
    refine ⟨_, (pss_cons (ps_set (i := 2) nd rfl (Or.inl rfl) (pe_lst pa_nil))
      (pss_cons (ps_for PassesOwn.never rfl (pi_seq (pv 0)) (pg_name (i := 3) nd rfl (Or.inl rfl)) (pss_cons (ps_asg (pe_call (ok_law_bodies T) (hr.mono (by omega)) (by rfl) T.m_law_bodies T.k_law_bodies T.v_law_bodies .nil pass0 (pa_cons (pv 3) pa_nil)) (pg_unl rfl (pgs_cons (pg_name (i := 4) nd rfl (Or.inl rfl)) (pgs_cons (pg_name (i := 5) nd rfl (Or.inl rfl)) pgs_nil))))
      (pss_cons (ps_set (i := 2) nd rfl (Or.inl rfl) (pe_op op_cat (pe_op op_cat (pv 2) (pe_lst (pa_cons (pe_op op_add_str (pv 1) (pe_call (ok_law_head T) (hr.mono (by omega)) (by rfl) T.m_law_head T.k_law_head T.v_law_head .nil pass0 (pa_cons (pv 3) pa_nil))) pa_nil))) (pe_call ih (hr.mono (by omega)) (by rfl) T.m_law_lines T.k_law_lines T.v_law_lines .nil pass0 (pa_cons (pv 4) (pa_cons (pe_op op_add_str (pv 1) pe_str) pa_nil)))))
      (pss_one (ps_if (pt_cmpR (op_neD hr.units) (pv 5) (pe_tup pa_nil) (nomark _)) (pss_one (ps_set (i := 2) nd rfl (Or.inl rfl) (pe_op op_cat (pe_op op_cat (pv 2) (pe_lst (pa_cons (pe_op op_add_str (pv 1) pe_str) pa_nil))) (pe_call ih (hr.mono (by omega)) (by rfl) T.m_law_lines T.k_law_lines T.v_law_lines .nil pass0 (pa_cons (pv 5) (pa_cons (pe_op op_add_str (pv 1) pe_str) pa_nil)))))) pss_nil)))))
      (pss_one (ps_ret (pv 2))))), ?_⟩
    refine ⟨Nat.zero_le _, fun f nf => ?_⟩
    have s0 := same_new (o := .lst []) nf
    refine ⟨_, rfl, a, rfl, for_seq (hs.same s0) (fun i σ H2 => Same (upd H f (.lst [])) H2 ∧ ∃ (f2 : Addr) (v3 v4 v5 : Option V), σ = [some (.ref a), some (.str x), some (.ref f2), v3, v4, v5] ∧ H f2 = none ∧ H2 f2 = some (.lst ((pre x (rowsB (ts.take i))).map V.str))) ⟨Same.refl _, f, _, _, _, rfl, nf, ?_⟩ (fun i σ H2 h => h.1) ?_ ?_⟩
    · rw [upd_same, List.take_zero, rowsB_nil]
      rfl
    · rintro i y σ H2 hy ⟨s2, f2, v3, v4, v5, rfl, nf2, hf2⟩
      rw [List.getElem?_map] at hy
      obtain ⟨p, hp, rfl⟩ := Option.map_eq_some_iff.mp hy
      obtain ⟨t, ht, trp⟩ := tr.get hp
      have hil : i < ts.length := (List.getElem?_eq_some_iff.mp ht).1
      have s02 := s0.trans s2
      have tk : rowsB (ts.take (i + 1)) = rowsB (ts.take i) ++ rowsT t := by
        rw [List.take_add_one, ht, rowsB_app]
        show _ ++ rowsB [t] = _
        rw [rowsB_cons, rowsB_nil, List.append_nil]
      have lt : lvT t ≤ lvB ts := lvB_mem (List.mem_of_getElem? ht)
      have at_ : amT t ≤ amB ts := amB_mem (List.mem_of_getElem? ht)
      have lte := lvT_eq t
      have ate := amT_eq t
      obtain ⟨ll, _⟩ := trp.line_ok
      have tkl : (rowsB (ts.take i)).length ≤ 2000 := by
        have e : rowsB ts = rowsB (ts.take i) ++ rowsB (ts.drop i) := by rw [← rowsB_app, List.take_append_drop]
        have h1 := rowsB_len ts
        rw [e, List.length_append] at h1
        omega
      have il := rowsB_len t.inner
      have ol := rowsB_len t.outer
      refine ⟨_, rfl, p, t, rfl, trp.mv (KpT.of_same s02), fun l pb pe H3 s3 nl hl bb be => ?_⟩
      refine ⟨l, _, rfl, SqL.of hl, rfl, _, _, rfl, _, _, rfl, rfl, ?_⟩
      have s03 := s02.trans s3
      -- the head
      refine ⟨_, rfl, _, rfl, _, rfl, p, t, rfl, trp.mv (KpT.of_same s03), fun H4 s4 => ⟨_, _, rfl, rfl, len5000 (by omega), (by show 1 ≤ sizeLine; decide), fun q1 n1 => ?_⟩⟩
      have e5 := same_new (o := .lst [.str (x ++ t.line)]) n1
      have hf5 := e5 _ _ (s4 _ _ (s3 _ _ hf2))
      have lz : ∀ z : List Str, (z.map V.str).length = z.length := fun z => List.length_map ..
      refine ⟨f2, q1, _, _, rfl, rfl, hf5, upd_same, by rw [lz, pre_len]; exact len5000 (by show _ + 1 ≤ 5000; omega), fun f3 m3 => ?_⟩
      have e6 := same_new (o := .lst ((pre x (rowsB (ts.take i))).map V.str ++ [.str (x ++ t.line)])) m3
      have s36 := (s4.trans e5).trans e6
      have s06 := s03.trans s36
      -- the inner body
      obtain ⟨pbs, sqb, trb⟩ := bb.mv (KpT.of_same s36)
      obtain ⟨pes, sqe, tre⟩ := be.mv (KpT.of_same s36)
      have l2 : (x ++ "  " : Str).length = x.length + 2 := by rw [app_length]; rfl
      refine ⟨_, rfl, _, rfl, _, _, rfl, rfl, len5000 (by show x.length + 2 ≤ 5000; omega), pb, pbs, t.inner, x ++ "  ", rfl, .inr sqb, trb, by omega, by omega, by omega, by omega, fun l7 H7 s7 n7 h7 => ?_⟩
      have s07 := s06.trans s7
      refine ⟨f3, l7, _, _, rfl, rfl, s7 _ _ upd_same, h7, by rw [List.length_append, lz, lz, pre_len, pre_len]; exact len5000 (by show _ + 1 + _ ≤ 5000; omega), fun f4 m4 => ?_⟩
      have e8 := same_new (o := .lst ((pre x (rowsB (ts.take i))).map V.str ++ [.str (x ++ t.line)] ++ (pre (x ++ "  ") (rowsB t.inner)).map V.str)) m4
      have s08 := s07.trans e8
      have nf4 : H f4 = none := s07.free m4
      -- is there an else
      refine ⟨_, rfl, (by show 0 ≤ sizeLine; decide), fun z0 nz => ?_⟩
      have e9 := same_new (o := .tup []) nz
      have s69 := (s7.trans e8).trans e9
      refine ⟨.tuple (dataB t.outer), .tuple [], .tup ((KpT.of_same s69).sq sqe) (tre.mv (KpT.of_same s69)).dp, .tup (SqT.of upd_same) .nil, body_shaped tre (by omega), by decide +kernel, _, rfl, ?_⟩
      rw [eqv_empty]
      have s2e : Same (upd H f (.lst [])) (upd (upd H7 f4 (.lst ((pre x (rowsB (ts.take i))).map V.str ++ [.str (x ++ t.line)] ++ (pre (x ++ "  ") (rowsB t.inner)).map V.str))) z0 (.tup [])) := (((s2.trans s3).trans s36).trans s7).trans (e8.trans e9)
      by_cases h0 : t.outer.length = 0
      · rw [decide_eq_true h0]
        refine ⟨s2e, f4, _, _, _, rfl, nf4, ?_⟩
        rw [e9 _ _ upd_same, tk, pre_app, pre_rowsT, if_pos h0]
        simp
      · rw [decide_eq_false h0]
        refine ⟨_, rfl, _, rfl, _, _, rfl, rfl, len5000 (by show x.length + 4 ≤ 5000; omega), (by show 1 ≤ sizeLine; decide), fun q2 n2 => ?_⟩
        have e10 := same_new (o := .lst [.str (x ++ "else")]) n2
        refine ⟨f4, q2, _, _, rfl, rfl, e10 _ _ (e9 _ _ upd_same), upd_same, ?_, fun f5 m5 => ?_⟩
        · rw [List.length_append, List.length_append, lz, lz, pre_len, pre_len]
          exact len5000 (by show _ + 1 + _ + 1 ≤ 5000; omega)
        have e11 := same_new (o := .lst ((pre x (rowsB (ts.take i))).map V.str ++ [.str (x ++ t.line)] ++ (pre (x ++ "  ") (rowsB t.inner)).map V.str ++ [.str (x ++ "else")])) m5
        have s6b := (s69.trans e10).trans e11
        refine ⟨_, rfl, _, rfl, _, _, rfl, rfl, len5000 (by show x.length + 2 ≤ 5000; omega), pe, pes, t.outer, x ++ "  ", rfl, .inr ((KpT.of_same s6b).sq sqe), tre.mv (KpT.of_same s6b), by omega, by omega, by omega, by omega, fun l8 H12 s12 n12 h12 => ?_⟩
        refine ⟨f5, l8, _, _, rfl, rfl, s12 _ _ upd_same, h12, ?_, fun f6 m6 => ?_⟩
        · rw [List.length_append, List.length_append, List.length_append, lz, lz, lz, pre_len, pre_len, pre_len]
          exact len5000 (by show _ + 1 + _ + 1 + _ ≤ 5000; omega)
        have e13 := same_new (o := .lst ((pre x (rowsB (ts.take i))).map V.str ++ [.str (x ++ t.line)] ++ (pre (x ++ "  ") (rowsB t.inner)).map V.str ++ [.str (x ++ "else")] ++ (pre (x ++ "  ") (rowsB t.outer)).map V.str)) m6
        have sE := ((e10.trans e11).trans s12).trans e13
        refine ⟨s2e.trans sE, f6, _, _, _, rfl, ?_, ?_⟩
        · exact (s06.trans ((s6b).trans s12)).free m6
        · rw [upd_same, tk, pre_app, pre_rowsT, if_neg h0]
          simp
    · rintro σ H2 ⟨s2, f2, v3, v4, v5, rfl, nf2, hf2⟩
      refine ⟨_, rfl, q f2 H2 (s0.trans s2) nf2 ?_⟩
      rw [hf2, List.take_of_length_le (by rw [List.length_map, tr.len]; exact Nat.le_refl _)]
theorem ok_law_lines (T : Txt K mg A) : ∀ n : Nat, FnOk P w K mg base CX0 (n + 2) A.a_law_lines A.d_law_lines ["_law_trees", "_law_indent"] (spLines K n)
  | 0 => FnOk.vac fun vs H Q E h => by
    obtain ⟨a, ps, ts, x, _, _, _, h, _⟩ := h
    omega
  | n + 1 => lines_step T n (ok_law_lines T n)
end
end K04
set_option Elab.async false
set_option linter.all false
set_option maxRecDepth 100000
set_option maxHeartbeats 4000000
namespace K04
open PySem PySem.Spec PyProof.Rows L2 Mo
def scSize : Scope := match defBody st_law_size with
  | [.Return (some (.Call _ [.ListComp _ _ sc _] _ _)) _] => sc
  | _ => { kind := .function, names := [], isGenerator := false, isCoroutine := false }
section
variable {w : World} {K : PySem.W.Frag} {mg : Str → Option Value} {base : Heap} {A : Ads}
/-- a number told of each of two bodies, in a list -/
theorem two_lc {H : Hp} {l pb pe : Addr} {u v : Nat} {vs : List Nat} {σ : L2.St} {D : Addr} {Qd : Hp → Prop} {te : TE} {i3 : Nat} (hl : H l = some (.lst [.ref pb, .ref pe])) (hD : H D = none)
    (h1 : ∀ (H2 : Hp) (R : VK), Same H H2 → (∀ H3, Same H2 H3 → R (.int (u : Nat)) H3) → te ((wipe σ vs).set i3 (some (.ref pb))) H2 R) (h2 : ∀ (H2 : Hp) (R : VK), Same H H2 → (∀ H3, Same H2 H3 → R (.int (v : Nat)) H3) → te ((wipe σ vs).set i3 (some (.ref pe))) H2 R) (hw : ∀ x, wipe ((wipe σ vs).set i3 x) vs = wipe σ vs)
    (hq : ∀ H2, Same H H2 → H2 D = some (.lst (([(u : Int), (v : Int)]).map V.int)) → Qd H2) :
    ∃ W : Nat → Nat → Hp → Prop, (∃ m, W 0 m (upd H D (.lst []))) ∧ ∀ i m H, W i m H →
      ((Itl K l).stop i H ∧ Qd H) ∨ ((Itl K l).go i H ∧ ∃ Nx : Hp → Prop, (∀ H', Nx H' → ∃ m', m' < m ∧ W (i + 1) m' H') ∧ ∀ x H', (Itl K l).yld i H x H' → gName i3 x (wipe σ vs) H' fun σ2 H2 => wipe σ2 vs = wipe σ vs ∧ tYes σ2 H2 fun b H3 =>
        if b = true then te σ2 H3 fun y H4 => ∃ acc, H4 D = some (.lst acc) ∧ acc.length < sizeLine ∧ Nx (upd H4 D (.lst (acc ++ [y]))) else Nx H3) := by
  refine lc_it (walk_list (K := K) (a := l) (xs := [.ref pb, .ref pe])) (g := gName i3) (tt := tYes) (te := te) (fun i H2 => Same H H2 ∧ H2 D = some (.lst ((([(u : Int), (v : Int)]).take i).map V.int))) ⟨same_new hD, upd_same⟩ (fun i H2 _ h => SqL.of (h.1 _ _ hl)) ?_ ?_
  · rintro i x H1 H2 hi ⟨sm, hd⟩ ⟨rfl, hx⟩
    refine ⟨hw _, ?_⟩
    have fin : ∀ (H3 : Hp) (y : Int), Same H2 H3 → ([(u : Int), (v : Int)]).take (i + 1) = ([(u : Int), (v : Int)]).take i ++ [y] → ∃ acc, H3 D = some (.lst acc) ∧ acc.length < sizeLine ∧ Same H (upd H3 D (.lst (acc ++ [.int y]))) ∧ (upd H3 D (.lst (acc ++ [.int y]))) D = some (.lst ((([(u : Int), (v : Int)]).take (i + 1)).map V.int)) := by
      intro H3 y s3 e
      refine ⟨_, s3 _ _ hd, ?_, fun b o z => ?_, ?_⟩
      · rw [List.length_map, List.length_take]
        exact lt5000 (by show min i 2 < 5000; omega)
      · rw [upd_ne (ne_of_none z hD)]
        exact s3 _ _ (sm _ _ z)
      · rw [upd_same, e, List.map_append]
        rfl
    have hi2 : i = 0 ∨ i = 1 := by
      have : i < 2 := hi
      omega
    rcases hi2 with rfl | rfl
    · cases hx
      exact h1 H2 _ sm fun H3 s3 => fin H3 u s3 rfl
    · cases hx
      exact h2 H2 _ sm fun H3 s3 => fin H3 v s3 rfl
  · rintro H2 ⟨sm, hd⟩
    exact hq H2 sm hd
theorem sum_am : ∀ ts : List Tr, (ts.map fun t => ((amT t : Nat) : Int)).sum = ((amB ts : Nat) : Int)
  | [] => by rw [amB_nil]; rfl
  | t :: ts => by
    rw [List.map_cons, List.sum_cons, sum_am ts, amB_cons]
    omega
def spSize (K : PySem.W.Frag) (n : Nat) : Sp := fun vs H Q _ => ∃ (a : Addr) (ps : List Addr) (ts : List Tr), vs = [.ref a] ∧ Sq K H a (ps.map V.ref) ∧ TrsAt K H ps ts ∧ lvB ts < n ∧ amB ts ≤ 1000 ∧ ∀ H', Same H H' → Q (.int (amB ts : Nat)) H'
theorem size_step (T : Txt K mg A) (n : Nat) (ih : FnOk P w K mg base CX0 (n + 2) A.a_law_size A.d_law_size ["_law_trees"] (spSize K n)) :
    FnOk P w K mg base CX0 (n + 3) A.a_law_size A.d_law_size ["_law_trees"] (spSize K (n + 1)) := by
  have nd := sc_law_size.nd
  refine T.f_law_size.ok sc_law_size (fun vs H Q E h => ?_) (fun cdv A' outer s H vs Q E hr h => ?_)
  · obtain ⟨a, ps, ts, rfl, _⟩ := h
    rfl
  · obtain ⟨a, ps, ts, rfl, hs, tr, ln, am, q⟩ := h
    have ltr := tr.len
    have lps : ps.length ≤ 1000 := by
      rw [tr.len]
      exact Nat.le_trans (amB_len ts) am
    refine ⟨_, (pss_one (ps_ret (pe_callB (cr_sum rfl) (by rfl) T.b_sum (by decide +kernel) (pa_cons (pe_lc (own := [("_law_tree", 1)]) (g := gName 1) (tt := tYes) rfl nd (pi_seq (pv 0)) (blkOk_by (N := nm_law_size) (sc := defScope st_law_size) (by decide +kernel)) (fun _ _ _ _ _ => (pg_name (i := 1) nd rfl (Or.inl rfl))) (fun _ _ _ _ _ => pts_nil) (fun _ _ _ _ _ => (pe_op op_add pe_int (pe_callB (show CallR _ _ (rSum K) from cr_sum rfl) (by rfl) T.b_sum (by decide +kernel) (pa_cons (pe_lc (own := [("_law_side", 2)]) (g := gName 2) (tt := tYes) rfl nd (show PI _ _ _ (iList K _) from pi_list (pe_call (ok_law_bodies T) (hr.mono (by omega)) (by rfl) T.m_law_bodies T.k_law_bodies T.v_law_bodies .nil pass0 (pa_cons (pv 1) pa_nil))) (blkOk_by (N := nm_law_size) (sc := scSize) (by decide +kernel)) (fun _ _ _ _ _ => (pg_name (i := 2) nd rfl (Or.inl rfl))) (fun _ _ _ _ _ => pts_nil) (fun _ _ _ _ _ => (pe_call ih (hr.mono (by omega)) (by rfl) T.m_law_size T.k_law_size T.v_law_size .nil pass0 (pa_cons (pv 2) pa_nil)))) pa_nil))))) pa_nil)))), ?_⟩
    refine ⟨_, rfl, a, rfl, lc_seq hs (fun D i H2 => Same H H2 ∧ H2 D = some (.lst (((ts.take i).map fun t => ((amT t : Nat) : Int)).map V.int))) (fun D hD => ⟨same_new hD, upd_same⟩) (fun D i H2 h => h.1) ?_ ?_⟩
    · rintro D i x H2 hD hx ⟨s2, hd⟩
      rw [List.getElem?_map] at hx
      obtain ⟨p, hp, rfl⟩ := Option.map_eq_some_iff.mp hx
      obtain ⟨t, ht, trp⟩ := tr.get hp
      have hil : i < ts.length := (List.getElem?_eq_some_iff.mp ht).1
      have lt : lvT t ≤ lvB ts := lvB_mem (List.mem_of_getElem? ht)
      have at_ : amT t ≤ amB ts := amB_mem (List.mem_of_getElem? ht)
      have lte := lvT_eq t
      have ate := amT_eq t
      refine ⟨rfl, _, rfl, p, t, rfl, trp.mv (KpT.of_same s2), fun l pb pe H3 s3 nl hl bb be => ?_⟩
      obtain ⟨pbs, sqb, trb⟩ := bb
      obtain ⟨pes, sqe, tre⟩ := be
      refine ⟨l, rfl, ⟨_, SqL.of hl⟩, fun D2 hD2 => two_lc (u := amB t.inner) (v := amB t.outer) (i3 := 2) hl hD2 (fun H4 R s4 k => ⟨_, rfl, pb, pbs, t.inner, rfl, .inr ((KpT.of_same s4).sq sqb), trb.mv (KpT.of_same s4), by omega, by omega, k⟩)
        (fun H4 R s4 k => ⟨_, rfl, pe, pes, t.outer, rfl, .inr ((KpT.of_same s4).sq sqe), tre.mv (KpT.of_same s4), by omega, by omega, k⟩) (fun _ => rfl) fun H4 s4 hd4 => ?_⟩
      refine ⟨D2, _, rfl, SqL.of hd4, _, _, rfl, rfl, _, s4 _ _ (s3 _ _ hd), ?_, ?_, ?_⟩
      · rw [List.length_map, List.length_map, List.length_take]
        exact lt5000 (by omega)
      · intro b o e
        rw [upd_ne (ne_of_none e hD)]
        exact s4 _ _ (s3 _ _ (s2 _ _ e))
      · rw [upd_same, List.take_add_one, ht, List.map_append, List.map_append]
        have e : (1 : Int) + [((amB t.inner : Nat) : Int), ((amB t.outer : Nat) : Int)].sum = ((amT t : Nat) : Int) := by
          simp only [List.sum_cons, List.sum_nil]
          omega
        show some (HO.lst (_ ++ [V.int ((1 : Int) + [((amB t.inner : Nat) : Int), ((amB t.outer : Nat) : Int)].sum)])) = _
        rw [e]
        rfl
    · rintro D H2 hD ⟨s2, hd⟩
      refine ⟨D, (ts.map fun t => ((amT t : Nat) : Int)), rfl, SqL.of ?_, ?_⟩
      · rw [hd, List.take_of_length_le (by rw [List.length_map, tr.len]; exact Nat.le_refl _)]
      · have e : (ts.map fun t => ((amT t : Nat) : Int)).sum = ((amB ts : Nat) : Int) := by
          exact sum_am ts
        rw [e]
        exact q H2 s2
theorem ok_law_size (T : Txt K mg A) : ∀ n : Nat, FnOk P w K mg base CX0 (n + 2) A.a_law_size A.d_law_size ["_law_trees"] (spSize K n)
  | 0 => FnOk.vac fun vs H Q E h => by
    obtain ⟨a, ps, ts, _, _, _, h, _⟩ := h
    omega
  | n + 1 => size_step T n (ok_law_size T n)
/-! ### heights -/
def spHeight (K : PySem.W.Frag) (n : Nat) : Sp := fun vs H Q _ => ∃ (p : Addr) (t : Tr), vs = [.ref p] ∧ TrAt K H p t ∧ lvT t ≤ n ∧ amT t ≤ 1000 ∧ ∀ H', Same H H' → Q (.int (lvT t : Nat)) H'
theorem max_list {ts : List Tr} {m : Int} (h1 : m ∈ (0 : Int) :: ts.map fun t => ((lvT t : Nat) : Int)) (h2 : ∀ y ∈ (0 : Int) :: ts.map fun t => ((lvT t : Nat) : Int), y ≤ m) : m = ((lvB ts : Nat) : Int) := by
  have up : ∀ (ts : List Tr) (m : Int), (0 : Int) ≤ m → (∀ t ∈ ts, ((lvT t : Nat) : Int) ≤ m) → ((lvB ts : Nat) : Int) ≤ m := by
    intro ts
    induction ts with
    | nil =>
      intro m h0 _
      rw [lvB_nil]
      exact h0
    | cons t ts ih =>
      intro m h0 h
      have a := ih m h0 fun u hu => h u (List.mem_cons_of_mem _ hu)
      have b := h t List.mem_cons_self
      rw [lvB_cons]
      omega
  have a := up ts m (h2 0 List.mem_cons_self) fun t ht => h2 _ (List.mem_cons_of_mem _ (List.mem_map.mpr ⟨t, ht, rfl⟩))
  rcases List.mem_cons.mp h1 with rfl | h1
  · omega
  · obtain ⟨t, ht, rfl⟩ := List.mem_map.mp h1
    have := lvB_mem ht
    omega
theorem height_step (T : Txt K mg A) (n : Nat) (ih : FnOk P w K mg base CX0 (n + 2) A.a_law_height A.d_law_height ["_law_tree"] (spHeight K n)) :
    FnOk P w K mg base CX0 (n + 3) A.a_law_height A.d_law_height ["_law_tree"] (spHeight K (n + 1)) := by
  have nd := sc_law_height.nd
  refine T.f_law_height.ok sc_law_height (fun vs H Q E h => ?_) (fun cdv A' outer s H vs Q E hr h => ?_)
  · obtain ⟨a, t, rfl, _⟩ := h
    rfl
  · obtain ⟨p, t, rfl, tr, ln, am, q⟩ := h
    have lte := lvT_eq t
    have ate := amT_eq t
    have li := amB_len t.inner
    have lo := amB_len t.outer
    refine ⟨_, (pss_cons (ps_asg (pe_call (ok_law_bodies T) (hr.mono (by omega)) (by rfl) T.m_law_bodies T.k_law_bodies T.v_law_bodies .nil pass0 (pa_cons (pv 0) pa_nil)) (pg_unl rfl (pgs_cons (pg_name (i := 1) nd rfl (Or.inl rfl)) (pgs_cons (pg_name (i := 2) nd rfl (Or.inl rfl)) pgs_nil))))
      (pss_one (ps_ret (pe_op op_add pe_int (pe_callB (cr_max rfl) (by rfl) T.b_max (by decide +kernel) (pa_cons (pe_op op_cat (pe_lst (pa_cons pe_int pa_nil)) (pe_lc (own := [("_law_part_here", 3)]) (g := gName 3) (tt := tYes) rfl nd (pi_tup (pe_op op_catX (pv 1) (pv 2))) (blkOk_by (N := nm_law_height) (sc := defScope st_law_height) (by decide +kernel)) (fun _ _ _ _ _ => (pg_name (i := 3) nd rfl (Or.inl rfl))) (fun _ _ _ _ _ => pts_nil) (fun _ _ _ _ _ => (pe_call ih (hr.mono (by omega)) (by rfl) T.m_law_height T.k_law_height T.v_law_height .nil pass0 (pa_cons (pv 3) pa_nil))))) pa_nil)))))), ?_⟩
    refine ⟨_, rfl, p, t, rfl, tr, fun l pb pe H3 s3 nl hl bb be => ?_⟩
    refine ⟨l, _, rfl, SqL.of hl, rfl, _, _, rfl, _, _, rfl, rfl, ?_⟩
    obtain ⟨pbs, sqb, trb⟩ := bb
    obtain ⟨pes, sqe, tre⟩ := be
    have lb := trb.len
    have le := tre.len
    refine ⟨(by show 1 ≤ sizeLine; decide), fun z nz => ?_⟩
    have e4 := same_new (o := .lst [.int 0]) nz
    refine ⟨_, rfl, _, rfl, catX_ok ((KpT.of_same e4).sq sqb) ((KpT.of_same e4).sq sqe) (by rw [List.length_map, List.length_map]; exact len5000 (by omega)) fun pc H5 s5 hc => ?_⟩
    have s45 := e4.trans s5
    have trc := (trb.app tre).mv (KpT.of_same s45)
    rw [← List.map_append] at hc
    have lvc := lvB_app t.inner t.outer
    have amc := amB_app t.inner t.outer
    refine ⟨pc, rfl, ⟨_, hc⟩, fun D hD => lc_it (walk_tup (K := K) (a := pc) (xs := (pbs ++ pes).map V.ref)) (fun i H6 => Same H5 H6 ∧ H6 D = some (.lst ((((t.inner ++ t.outer).take i).map fun t => ((lvT t : Nat) : Int)).map V.int))) ⟨same_new hD, upd_same⟩ (fun i H6 _ h => (KpT.of_same h.1).sq hc) ?_ ?_⟩
    · rintro i x H6 H7 hi ⟨s6, hd⟩ ⟨rfl, hx⟩
      rw [List.getElem?_map] at hx
      obtain ⟨r, hr2, rfl⟩ := Option.map_eq_some_iff.mp hx
      obtain ⟨u, hu, tru⟩ := trc.get hr2
      have lu : lvT u ≤ lvB (t.inner ++ t.outer) := lvB_mem (List.mem_of_getElem? hu)
      have au : amT u ≤ amB (t.inner ++ t.outer) := amB_mem (List.mem_of_getElem? hu)
      have iu := (List.getElem?_eq_some_iff.mp hu).1
      rw [List.length_append] at iu
      refine ⟨rfl, _, rfl, r, u, rfl, tru.mv (KpT.of_same s6), by omega, by omega, fun H8 s8 => ⟨_, s8 _ _ hd, ?_, ?_, ?_⟩⟩
      · rw [List.length_map, List.length_map, List.length_take]
        exact lt5000 (by omega)
      · intro b o e
        rw [upd_ne (ne_of_none e hD)]
        exact s8 _ _ (s6 _ _ e)
      · rw [upd_same, List.take_add_one, hu, List.map_append, List.map_append]
        rfl
    · rintro H6 ⟨s6, hd⟩
      rw [List.take_of_length_le (by simp only [List.length_map, List.length_append]; omega)] at hd
      refine ⟨z, D, _, _, rfl, rfl, s6 _ _ (s5 _ _ upd_same), hd, ?_, fun f nf => ?_⟩
      · rw [List.length_map, List.length_map, List.length_append]
        exact len5000 (by show 1 + _ ≤ 5000; omega)
      refine ⟨f, (0 : Int) :: (t.inner ++ t.outer).map fun t => ((lvT t : Nat) : Int), rfl, SqL.of upd_same, by rw [List.length_cons]; omega, fun m hm hx => ?_⟩
      rw [max_list hm hx]
      refine ⟨_, _, rfl, rfl, ?_⟩
      have e : (1 : Int) + ((lvB (t.inner ++ t.outer) : Nat) : Int) = ((lvT t : Nat) : Int) := by omega
      show Q (.int ((1 : Int) + ((lvB (t.inner ++ t.outer) : Nat) : Int))) _
      rw [e]
      exact q _ (((s3.trans s45).trans s6).trans (same_new nf))
theorem ok_law_height (T : Txt K mg A) : ∀ n : Nat, FnOk P w K mg base CX0 (n + 2) A.a_law_height A.d_law_height ["_law_tree"] (spHeight K n)
  | 0 => FnOk.vac fun vs H Q E h => by
    obtain ⟨p, t, _, _, h, _⟩ := h
    have := lvT_pos t
    omega
  | n + 1 => height_step T n (ok_law_height T n)
end
end K04
set_option Elab.async false
set_option linter.all false
set_option maxRecDepth 100000
set_option maxHeartbeats 4000000
namespace K04
open PySem PySem.Spec PyProof.Rows L2 Mo
/-! ### what may stand in a joined statement -/
def goK (k : Nat) : Bool := decide (k ≤ 4) || k == 7
mutual
def goT : Tr → Bool
  | .one k _ _ => goK k && true
  | .cond _ _ b e => goK 7 && (goB b && goB e)
  | .loop b => goK 8 && (goB b && true)
  | .joined b => goK 9 && (goB b && true)
def goB : List Tr → Bool
  | [] => true
  | t :: ts => goT t && goB ts
end
theorem goB_nil : goB [] = true := by rw [goB]
theorem goB_cons (t : Tr) (ts : List Tr) : goB (t :: ts) = (goT t && goB ts) := by rw [goB]
theorem goT_eq (t : Tr) : goT t = (goK t.k && (goB t.inner && goB t.outer)) := by
  cases t <;> simp [goT, Tr.k, Tr.inner, Tr.outer, goB]
theorem goB_app : ∀ a b : List Tr, goB (a ++ b) = (goB a && goB b)
  | [], b => by rw [goB_nil]; rfl
  | t :: a, b => by rw [List.cons_append, goB_cons, goB_cons, goB_app a b, Bool.and_assoc]
theorem goB_all : ∀ ts : List Tr, goB ts = ts.all goT
  | [] => by rw [goB_nil]; rfl
  | t :: ts => by rw [goB_cons, goB_all ts]; rfl
abbrev kwords : List Str := ["look", "put", "swap", "try", "let", "leave", "return", "if", "loop", "joined"]
section
variable {w : World} {K : PySem.W.Frag} {mg : Str → Option Value} {base : Heap} {A : Ads}
theorem con_k (T : Txt K mg A) {k : Nat} {C : Addr} (h : A.fam[k]? = some C) : ∃ u z, kwords[k]? = some z ∧ Con K C "WORD" (.str z) u := by
  match k, h with
  | 0, h => cases (show some A.c_Look = some C from h); obtain ⟨u, c⟩ := T.co_Look; exact ⟨u, _, rfl, c⟩
  | 1, h => cases (show some A.c_Put = some C from h); obtain ⟨u, c⟩ := T.co_Put; exact ⟨u, _, rfl, c⟩
  | 2, h => cases (show some A.c_Swap = some C from h); obtain ⟨u, c⟩ := T.co_Swap; exact ⟨u, _, rfl, c⟩
  | 3, h => cases (show some A.c_Try = some C from h); obtain ⟨u, c⟩ := T.co_Try; exact ⟨u, _, rfl, c⟩
  | 4, h => cases (show some A.c_Let = some C from h); obtain ⟨u, c⟩ := T.co_Let; exact ⟨u, _, rfl, c⟩
  | 5, h => cases (show some A.c_Leave = some C from h); obtain ⟨u, c⟩ := T.co_Leave; exact ⟨u, _, rfl, c⟩
  | 6, h => cases (show some A.c_Return = some C from h); obtain ⟨u, c⟩ := T.co_Return; exact ⟨u, _, rfl, c⟩
  | 7, h => cases (show some A.c_If = some C from h); obtain ⟨u, c⟩ := T.co_If; exact ⟨u, _, rfl, c⟩
  | 8, h => cases (show some A.c_Loop = some C from h); obtain ⟨u, c⟩ := T.co_Loop; exact ⟨u, _, rfl, c⟩
  | 9, h => cases (show some A.c_Joined = some C from h); obtain ⟨u, c⟩ := T.co_Joined; exact ⟨u, _, rfl, c⟩
  | n + 10, h => cases h
theorem in_go : ∀ k < 10, ∀ z, kwords[k]? = some z → inV (.str z) [.str "look", .str "put", .str "swap", .str "try", .str "let", .str "if"] = goK k := by
  intro k hk z hz
  have h : (List.range 10).all (fun k => (kwords[k]?.map fun z => inV (.str z) [.str "look", .str "put", .str "swap", .str "try", .str "let", .str "if"] == goK k).getD true) = true := by decide +kernel
  have := List.all_eq_true.mp h k (List.mem_range.mpr hk)
  rw [hz] at this
  exact beq_iff_eq.mp this
theorem k_lt {k : Nat} {C : Addr} (h : A.fam[k]? = some C) : k < 10 := (List.getElem?_eq_some_iff.mp h).1
def spGoes (K : PySem.W.Frag) (A : Ads) (n : Nat) : Sp := fun vs H Q _ => ∃ (p : Addr) (t : Tr), vs = [.ref p] ∧ StT K A H p t ∧ lvT t ≤ n ∧ ∀ H', Same H H' → Q (.bl (goT t)) H'
theorem goes_step (T : Txt K mg A) (n : Nat) (ih : FnOk P w K mg base CX0 (n + 1) A.a_goes_together A.d_goes_together ["part"] (spGoes K A n)) :
    FnOk P w K mg base CX0 (n + 2) A.a_goes_together A.d_goes_together ["part"] (spGoes K A (n + 1)) := by
  have nd := sc_goes_together.nd
  refine T.f_goes_together.ok sc_goes_together (fun vs H Q E h => ?_) (fun cdv A' outer s H vs Q E hr h => ?_)
  · obtain ⟨p, t, rfl, _⟩ := h
    rfl
  · obtain ⟨p, t, rfl, st, ln, q⟩ := h
    obtain ⟨bs, os, sa, sb, so⟩ := st.at
    have ro := sa.ok
    obtain ⟨C, dx, fs, ps, pr, pb, po, h1, h2, h3, h4, h5, h6, h7, h8, h9, h10, h11, h12⟩ := sa
    have fc := T.fam C (List.mem_of_getElem? h1)
    obtain ⟨u, z, hz, con⟩ := con_k T h1
    have lte := lvT_eq t
    have ate := amT_eq t
    have am40 : amT t ≤ 40 := ro.2.1
    have lb := sb.len
    have lo := so.len
    have li := amB_len t.inner
    have lo2 := amB_len t.outer
    refine ⟨_, (pss_one (ps_ret (pe_and (pe_cmpR op_in_seq (pe_con (pv 0) rfl) (pe_gR T.c_TOGETHER) (by rfl)) (pe_one (pe_callB (cr_all rfl) (by rfl) T.b_all (by decide +kernel) (pa_cons (pe_lc (own := [("one", 1)]) (g := gName 1) (tt := tYes) rfl nd (pi_tup (pe_op op_catX (pe_fld (pv 0) rfl) (pe_fld (pv 0) rfl))) (blkOk_by (N := nm_goes_together) (sc := defScope st_goes_together) (by decide +kernel)) (fun _ _ _ _ _ => (pg_name (i := 1) nd rfl (Or.inl rfl))) (fun _ _ _ _ _ => pts_nil) (fun _ _ _ _ _ => (pe_call ih (hr.mono (by omega)) (by rfl) T.m_goes_together T.k_goes_together T.v_goes_together .nil pass0 (pa_cons (pv 1) pa_nil)))) pa_nil)))))), ?_⟩
    refine ⟨_, rfl, p, C, dx, fs, _, u, rfl, h2, fc.cl, con, h11, A.u_TOGETHER, _, rfl, Or.inr (T.s_TOGETHER H), rfl, rfl, _, rfl, ?_⟩
    have iv := in_go t.k (k_lt h1) z hz
    have ge := goT_eq t
    refine ite2 (fun hin => ?_) (fun hin => ?_)
    · have hin : inV (.str z) [.str "look", .str "put", .str "swap", .str "try", .str "let", .str "if"] = true := hin
      rw [iv] at hin
      rw [hin, Bool.true_and, ← goB_app] at ge
      refine ⟨_, rfl, p, C, dx, fs, _, rfl, h2, fc.cl, fc.na _ (by decide +kernel), h7, _, rfl, p, C, dx, fs, _, rfl, h2, fc.cl, fc.na _ (by decide +kernel), h9, catX_ok h8 h10 (by rw [List.length_map, List.length_map]; exact len5000 (by omega)) fun pc H1 s1 hc => ?_⟩
      rw [← List.map_append] at hc
      have stc := (sb.app so).mv (KpT.of_same s1)
      have lvc := lvB_app t.inner t.outer
      refine ⟨pc, rfl, ⟨_, hc⟩, fun D hD => lc_it (walk_tup (K := K) (a := pc) (xs := (bs ++ os).map V.ref)) (fun i H6 => Same H1 H6 ∧ H6 D = some (.lst ((((t.inner ++ t.outer).take i).map goT).map V.bl))) ⟨same_new hD, upd_same⟩ (fun i H6 _ h => (KpT.of_same h.1).sq hc) ?_ ?_⟩
      · rintro i x H6 H7 hi ⟨s6, hd⟩ ⟨rfl, hx⟩
        rw [List.getElem?_map] at hx
        obtain ⟨r, hr2, rfl⟩ := Option.map_eq_some_iff.mp hx
        obtain ⟨v, hv, stv⟩ := stc.get hr2
        have lu : lvT v ≤ lvB (t.inner ++ t.outer) := lvB_mem (List.mem_of_getElem? hv)
        have iu := (List.getElem?_eq_some_iff.mp hv).1
        rw [List.length_append] at iu
        refine ⟨rfl, _, rfl, r, v, rfl, stv.mv (KpT.of_same s6), by omega, fun H8 s8 => ⟨_, s8 _ _ hd, ?_, ?_, ?_⟩⟩
        · rw [List.length_map, List.length_map, List.length_take]
          exact lt5000 (by omega)
        · intro b o e
          rw [upd_ne (ne_of_none e hD)]
          exact s8 _ _ (s6 _ _ e)
        · rw [upd_same, List.take_add_one, hv, List.map_append, List.map_append]
          rfl
      · rintro H6 ⟨s6, hd⟩
        rw [List.take_of_length_le (by simp only [List.length_map, List.length_append]; omega)] at hd
        refine ⟨D, _, rfl, SqL.of hd, ?_⟩
        have e : ((t.inner ++ t.outer).map goT).all id = goT t := by
          rw [ge, goB_all, List.all_map]
          rfl
        rw [e]
        exact q H6 (s1.trans s6)
    · have hin : ¬ inV (.str z) [.str "look", .str "put", .str "swap", .str "try", .str "let", .str "if"] = true := hin
      rw [iv] at hin
      have hin := Bool.eq_false_iff.mpr hin
      rw [hin, Bool.false_and] at ge
      show Q (.bl false) H
      rw [← ge]
      exact q H (Same.refl H)
theorem goes_n (T : Txt K mg A) : ∀ n : Nat, FnOk P w K mg base CX0 (n + 1) A.a_goes_together A.d_goes_together ["part"] (spGoes K A n)
  | 0 => FnOk.vac fun vs H Q E h => by
    obtain ⟨p, t, _, _, h, _⟩ := h
    have := lvT_pos t
    omega
  | n + 1 => goes_step T n (goes_n T n)
theorem ok_goes_together (T : Txt K mg A) : FnOk P w K mg base CX0 6 A.a_goes_together A.d_goes_together ["part"] (spGoes K A 5) := goes_n T 5
def spCkB (K : PySem.W.Frag) (A : Ads) (f : Tr → Prop) : Sp := fun vs H Q _ => ∃ (pb : Addr) (bs : List Addr) (ts : List Tr), vs = [.ref pb] ∧ SqT K H pb (bs.map V.ref) ∧ StsT K A H bs ts ∧ (∀ t ∈ ts, f t) ∧ ∀ H', Same H H' → Q .non H'
theorem ok_check_body (T : Txt K mg A) : FnOk P w K mg base CX0 1 A.a_check_body A.d_check_body ["value"] (spCkB K A fun _ => True) := by
  have nd := sc_check_body.nd
  refine T.f_check_body.ok sc_check_body (fun vs H Q E h => ?_) (fun cdv A' outer s H vs Q E hr h => ?_)
  · obtain ⟨pb, bs, ts, rfl, _⟩ := h
    rfl
  · obtain ⟨pb, bs, ts, rfl, hb, st, _, q⟩ := h
    refine ⟨_, (pss_cons (ps_if (pt_not (pt_val (pe_callB call_isi (by rfl) T.b_isinstance (by decide +kernel) (pa_cons (pv 0) (pa_cons (pe_ty "tuple" T.b_tuple) pa_nil))))) (pss_one ps_never) pss_nil)
      (pss_one (ps_for PassesOwn.never rfl (pi_enumT (by rfl) T.b_enumerate (pa_cons (pv 0) pa_nil)) (pg_tup rfl (pgs_cons (pg_name (i := 1) nd rfl (Or.inl rfl)) (pgs_cons (pg_name (i := 2) nd rfl (Or.inl rfl)) pgs_nil))) (pss_one (ps_if (pt_not (pt_val (pe_callB call_isi (by rfl) T.b_isinstance (by decide +kernel) (pa_cons (pv 2) (pa_cons (pe_gR T.m_Statement) pa_nil))))) (pss_one ps_never) pss_nil))))), ?_⟩
    refine ⟨_, rfl, _, _, _, _, _, rfl, .ty _, sqt_ty hb, kit7 .tup .tup (by decide), _, rfl, ?_⟩
    refine ⟨_, rfl, pb, _, rfl, hb, for_it walk_enumT (fun i σ H2 => Same H H2 ∧ ∃ v1 v2, σ = [some (.ref pb), v1, v2]) ⟨Same.refl _, _, _, rfl⟩ (fun i σ H2 _ h => (KpT.of_same h.1).sq hb) ?_ ?_⟩
    · rintro i x σ H1 H2 hi ⟨s1, v1, v2, rfl⟩ ⟨t, y, rfl, ht, rfl, hy⟩
      rw [List.getElem?_map] at hy
      obtain ⟨r, hr2, rfl⟩ := Option.map_eq_some_iff.mp hy
      obtain ⟨u, hu, stu⟩ := st.get hr2
      have s2 := s1.trans (same_new (o := .tup [.int (i : Nat), .ref r]) ht)
      obtain ⟨b1, o1, sa, _, _⟩ := (stu.mv (KpT.of_same s2)).at
      obtain ⟨C, dx, fs, ps, pr, pb2, po, h1, h2, h3⟩ := sa
      have mC := List.mem_of_getElem? h1
      refine ⟨t, _, rfl, SqT.of upd_same, rfl, _, _, rfl, _, _, rfl, rfl, ?_⟩
      refine ⟨_, rfl, _, _, _, _, _, rfl, .own _, (T.fam C mC).ty _ _ _ _ h2, (T.sub C mC).2, _, rfl, ?_⟩
      exact ⟨s2, _, _, rfl⟩
    · rintro σ H2 ⟨s2, v1, v2, rfl⟩
      exact q H2 s2
theorem ok_check_joined (T : Txt K mg A) : FnOk P w K mg base CX0 7 A.a_check_joined A.d_check_joined ["value"] (spCkB K A fun t => goT t = true) := by
  have nd := sc_check_joined.nd
  refine T.f_check_joined.ok sc_check_joined (fun vs H Q E h => ?_) (fun cdv A' outer s H vs Q E hr h => ?_)
  · obtain ⟨pb, bs, ts, rfl, _⟩ := h
    rfl
  · obtain ⟨pb, bs, ts, rfl, hb, st, hg, q⟩ := h
    refine ⟨_, (pss_cons (ps_if (pt_not (pt_val (pe_callB call_isi (by rfl) T.b_isinstance (by decide +kernel) (pa_cons (pv 0) (pa_cons (pe_ty "tuple" T.b_tuple) pa_nil))))) (pss_one ps_never) pss_nil)
      (pss_one (ps_for PassesOwn.never rfl (pi_enumT (by rfl) T.b_enumerate (pa_cons (pv 0) pa_nil)) (pg_tup rfl (pgs_cons (pg_name (i := 1) nd rfl (Or.inl rfl)) (pgs_cons (pg_name (i := 2) nd rfl (Or.inl rfl)) pgs_nil))) (pss_one (ps_if (PW.pt (pw_or (pt_not (pt_val (pe_callB call_isi (by rfl) T.b_isinstance (by decide +kernel) (pa_cons (pv 2) (pa_cons (pe_gR T.m_Statement) pa_nil))))) (pw_or1 (pt_not (pt_val (pe_call (ok_goes_together T) (hr.mono (by decide)) (by rfl) T.m_goes_together T.k_goes_together T.v_goes_together .nil pass0 (pa_cons (pv 2) pa_nil))))))) (pss_one ps_never) pss_nil))))), ?_⟩
    refine ⟨_, rfl, _, _, _, _, _, rfl, .ty _, sqt_ty hb, kit7 .tup .tup (by decide), _, rfl, ?_⟩
    refine ⟨_, rfl, pb, _, rfl, hb, for_it walk_enumT (fun i σ H2 => Same H H2 ∧ ∃ v1 v2, σ = [some (.ref pb), v1, v2]) ⟨Same.refl _, _, _, rfl⟩ (fun i σ H2 _ h => (KpT.of_same h.1).sq hb) ?_ ?_⟩
    · rintro i x σ H1 H2 hi ⟨s1, v1, v2, rfl⟩ ⟨t, y, rfl, ht, rfl, hy⟩
      rw [List.getElem?_map] at hy
      obtain ⟨r, hr2, rfl⟩ := Option.map_eq_some_iff.mp hy
      obtain ⟨u, hu, stu⟩ := st.get hr2
      have s2 := s1.trans (same_new (o := .tup [.int (i : Nat), .ref r]) ht)
      have stu2 := stu.mv (KpT.of_same s2)
      obtain ⟨b1, o1, sa, _, _⟩ := stu2.at
      have ro := sa.ok
      obtain ⟨C, dx, fs, ps, pr, pb2, po, h1, h2, h3⟩ := sa
      have mC := List.mem_of_getElem? h1
      refine ⟨t, _, rfl, SqT.of upd_same, rfl, _, _, rfl, _, _, rfl, rfl, ?_⟩
      refine ⟨_, rfl, _, _, _, _, _, rfl, .own _, (T.fam C mC).ty _ _ _ _ h2, (T.sub C mC).2, _, rfl, ?_⟩
      refine ⟨_, rfl, r, u, rfl, stu2, ro.2.2.2.1, fun H3 s3 => ⟨_, rfl, ?_⟩⟩
      rw [hg u (List.mem_of_getElem? hu)]
      exact ⟨s2.trans s3, _, _, rfl⟩
    · rintro σ H2 ⟨s2, v1, v2, rfl⟩
      exact q H2 s2
end
end K04
set_option Elab.async false
set_option linter.all false
set_option maxRecDepth 100000
set_option maxHeartbeats 4000000
namespace K04
open PySem PySem.Spec PyProof.Rows L2 Mo
section
variable {w : World} {K : PySem.W.Frag} {mg : Str → Option Value} {base : Heap} {A : Ads}
theorem rowsOf_T {H : Hp} {bs os : List Addr} {t : Tr} (b : StsT K A H bs t.inner) (o : StsT K A H os t.outer) : rowsOf t.line (partsOf bs t.inner) (partsOf os t.outer) = rowsT t := by
  obtain ⟨_, _, _, b4, _⟩ := b.sums
  obtain ⟨_, _, _, o4, o5⟩ := o.sums
  rw [rowsT_eq]
  unfold rowsOf
  rw [b4, o4]
  cases e : t.outer with
  | nil =>
    rw [e] at o5
    rw [if_pos (o5.mpr rfl)]
    rfl
  | cons u us =>
    rw [e] at o5
    rw [if_neg (fun z => by cases o5.mp z)]
    rfl
theorem mk_st {H H' : Hp} {a C dx ps pr pb po : Addr} {fs : List (Str × V)} {t : Tr} {bs os : List Addr} (hk : A.fam[t.k]? = some C) (h1 : H' a = some (.ins C dx fs))
    (f1 : fs.lookup ("size" : Str) = some (.ref ps)) (f2 : fs.lookup ("rows" : Str) = some (.ref pr)) (f3 : fs.lookup ("body" : Str) = some (.ref pb)) (f4 : fs.lookup ("otherwise" : Str) = some (.ref po)) (f5 : fs.lookup ("WORD" : Str) = none)
    (b : StsT K A H bs t.inner) (o : StsT K A H os t.outer) (hb : SqT K H' pb (bs.map V.ref)) (ho : SqT K H' po (os.map V.ref)) (k : KpT H H')
    (h2 : H' ps = some (.tup [.int (1 + (sumA (partsOf bs t.inner) + sumA (partsOf os t.outer)) : Nat), .int (1 + maxL (partsOf bs t.inner ++ partsOf os t.outer) : Nat)]))
    (h3 : H' pr = some (.tup ((rowsOf t.line (partsOf bs t.inner) (partsOf os t.outer)).map V.str))) (h39 : amB t.inner + amB t.outer ≤ 39) (h4 : max (lvB t.inner) (lvB t.outer) ≤ 4) (ll : t.line.length ≤ 200) (la : AlnT t.line) : StT K A H' a t := by
  obtain ⟨_, b2, b3, b4, _⟩ := b.sums
  obtain ⟨_, o2, o3, o4, o5⟩ := o.sums
  have am : amT t = 1 + (sumA (partsOf bs t.inner) + sumA (partsOf os t.outer)) := by rw [amT_eq, b2, o2]
  have lv : lvT t = 1 + maxL (partsOf bs t.inner ++ partsOf os t.outer) := by rw [lvT_eq, maxL_app, b3, o3]
  have rr := rowsOf_ok ll la b.parts o.parts (by rw [b2, o2]; exact h39) (by rw [maxL_app, b3, o3]; exact h4)
  rw [rowsOf_T b o] at h3
  rw [rowsOf_T b o, ← am, ← lv] at rr
  rw [← am, ← lv] at h2
  exact .mk ⟨C, dx, fs, ps, pr, pb, po, hk, h1, f1, h2, f2, h3, f3, hb, f4, ho, f5, rr⟩ (b.mv k) (o.mv k)
def spHold (K : PySem.W.Frag) (A : Ads) (C : Addr) (f : List Tr → Tr) (g : Tr → Prop) : Sp := fun vs H Q _ => ∃ (a dx pb : Addr) (bs : List Addr) (ts : List Tr), vs = [.ref a, .ref pb] ∧ H a = some (.ins C dx []) ∧ SqT K H pb (bs.map V.ref) ∧ StsT K A H bs ts ∧ (∀ t ∈ ts, g t) ∧ amB ts ≤ 39 ∧ lvB ts ≤ 4 ∧ ∀ H', StT K A H' a (f ts) → KeepBut a H H' → Q .non H'
theorem ok_Loop___init__ (T : Txt K mg A) : FnOk P w K mg base CX0 5 A.a_Loop___init__ A.d_Loop___init__ ["self", "body"] (spHold K A A.c_Loop .loop (fun _ => True)) := by
  have nd := ss_Loop___init__.nd
  refine T.f_Loop___init__.ok ss_Loop___init__ (ar := _) rfl rfl rfl (fun vs H Q E h => ?_) (fun cdv A' outer s H vs Q E hr S h => ?_)
  · obtain ⟨a, dx, pb, bs, ts, rfl, _⟩ := h
    rfl
  · obtain ⟨a, dx, pb, bs, ts, rfl, ha, hb, st, hg, h39, h4, k⟩ := h
    have mem : A.c_Loop ∈ A.fam := List.mem_of_getElem? (show A.fam[8]? = some A.c_Loop from rfl)
    have fc := T.fam _ mem
    refine ⟨_, (psa_cons (ps_expr (pe_call (ok_check_body T) (hr.mono (by decide)) (by rfl) T.m_check_body T.k_check_body T.v_check_body .nil pass0 (pa_cons (pv 1) pa_nil)))
      (psa_sup S ((ok_Statement___init__ T).raw (dvs := [.ref A.x_Statement___init___2]) T.vd_Statement___init___3 (.cons rfl .nil)) (hr.mono (by decide)) pass0 (pa_cons pe_str (pa_cons (pe_tup pa_nil) (pa_cons (pv 1) pa_nil))) (psa_any pss_nil) T.b_super T.fi_Statement___init__ T.ft_Statement___init__)), ?_⟩
    refine ⟨_, rfl, pb, bs, ts, rfl, hb, st, hg, fun H1 s1 => ?_⟩
    refine ⟨a, A.c_Loop, dx, [], rfl, s1 _ _ ha, T.slf _ mem, T.sup _ mem, fun q hq => ?_⟩
    have sq := s1.trans (same_new (o := .met A.a_Statement___init__ a) hq)
    refine ⟨by show 0 ≤ sizeLine; decide, fun pm hpm => ?_⟩
    have sm := sq.trans (same_new (o := .tup []) hpm)
    have hm : (upd (upd H1 q (.met A.a_Statement___init__ a)) pm (.tup [])) q = some (.met A.a_Statement___init__ a) := same_new hpm _ _ upd_same
    have km := KpT.of_same sm
    obtain ⟨e1, e2, e3, e4, e5⟩ := st.sums
    refine ⟨_, rfl, hm, a, A.c_Loop, dx, pm, pb, A.x_Statement___init___2, _, partsOf bs ts, [], rfl, mem, sm _ _ ha, by rw [e1]; exact km.sq hb, T.e_Statement___init___2 _, (st.mv km).parts, fun _ h => (List.not_mem_nil h).elim, by rw [e2]; exact h39, by rw [List.append_nil, e3]; exact h4, by decide, aln_by (by decide +kernel), fun ps pr H' h1 h2 h3 kb => ?_⟩
    have kn := KpT.new (sm _ _ ha) kb
    refine k _ (mk_st (t := .loop ts) (H := H) (bs := bs) (os := []) rfl h1 rfl rfl rfl rfl rfl st .nil (kn.sq (km.sq hb)) (T.e_Statement___init___2 _) (km.trans kn) h2 h3 (by show amB ts + amB [] ≤ 39; rw [amB_nil]; omega) (by show max (lvB ts) (lvB []) ≤ 4; rw [lvB_nil]; omega) (by show ("loop" : Str).length ≤ 200; decide) (aln_by (by show ("loop" : Str).cps.toList.all Aln = true; decide +kernel))) ?_
    intro b o nb e
    exact kb _ _ nb (sm _ _ e)
theorem ok_Joined___init__ (T : Txt K mg A) : FnOk P w K mg base CX0 8 A.a_Joined___init__ A.d_Joined___init__ ["self", "body"] (spHold K A A.c_Joined .joined (fun t => goT t = true)) := by
  have nd := ss_Joined___init__.nd
  refine T.f_Joined___init__.ok ss_Joined___init__ (ar := _) rfl rfl rfl (fun vs H Q E h => ?_) (fun cdv A' outer s H vs Q E hr S h => ?_)
  · obtain ⟨a, dx, pb, bs, ts, rfl, _⟩ := h
    rfl
  · obtain ⟨a, dx, pb, bs, ts, rfl, ha, hb, st, hg, h39, h4, k⟩ := h
    have mem : A.c_Joined ∈ A.fam := List.mem_of_getElem? (show A.fam[9]? = some A.c_Joined from rfl)
    have fc := T.fam _ mem
    refine ⟨_, (psa_cons (ps_expr (pe_call (ok_check_joined T) (hr.mono (by decide)) (by rfl) T.m_check_joined T.k_check_joined T.v_check_joined .nil pass0 (pa_cons (pv 1) pa_nil)))
      (psa_sup S ((ok_Statement___init__ T).raw (dvs := [.ref A.x_Statement___init___2]) T.vd_Statement___init___3 (.cons rfl .nil)) (hr.mono (by decide)) pass0 (pa_cons pe_str (pa_cons (pe_tup pa_nil) (pa_cons (pv 1) pa_nil))) (psa_any pss_nil) T.b_super T.fi_Statement___init__ T.ft_Statement___init__)), ?_⟩
    refine ⟨_, rfl, pb, bs, ts, rfl, hb, st, hg, fun H1 s1 => ?_⟩
    refine ⟨a, A.c_Joined, dx, [], rfl, s1 _ _ ha, T.slf _ mem, T.sup _ mem, fun q hq => ?_⟩
    have sq := s1.trans (same_new (o := .met A.a_Statement___init__ a) hq)
    refine ⟨by show 0 ≤ sizeLine; decide, fun pm hpm => ?_⟩
    have sm := sq.trans (same_new (o := .tup []) hpm)
    have hm : (upd (upd H1 q (.met A.a_Statement___init__ a)) pm (.tup [])) q = some (.met A.a_Statement___init__ a) := same_new hpm _ _ upd_same
    have km := KpT.of_same sm
    obtain ⟨e1, e2, e3, e4, e5⟩ := st.sums
    refine ⟨_, rfl, hm, a, A.c_Joined, dx, pm, pb, A.x_Statement___init___2, _, partsOf bs ts, [], rfl, mem, sm _ _ ha, by rw [e1]; exact km.sq hb, T.e_Statement___init___2 _, (st.mv km).parts, fun _ h => (List.not_mem_nil h).elim, by rw [e2]; exact h39, by rw [List.append_nil, e3]; exact h4, by decide, aln_by (by decide +kernel), fun ps pr H' h1 h2 h3 kb => ?_⟩
    have kn := KpT.new (sm _ _ ha) kb
    refine k _ (mk_st (t := .joined ts) (H := H) (bs := bs) (os := []) rfl h1 rfl rfl rfl rfl rfl st .nil (kn.sq (km.sq hb)) (T.e_Statement___init___2 _) (km.trans kn) h2 h3 (by show amB ts + amB [] ≤ 39; rw [amB_nil]; omega) (by show max (lvB ts) (lvB []) ≤ 4; rw [lvB_nil]; omega) (by show ("joined" : Str).length ≤ 200; decide) (aln_by (by show ("joined" : Str).cps.toList.all Aln = true; decide +kernel))) ?_
    intro b o nb e
    exact kb _ _ nb (sm _ _ e)
def spIf (K : PySem.W.Frag) (A : Ads) : Sp := fun vs H Q _ => ∃ (a dx pb po : Addr) (l r : Str) (bs os : List Addr) (ts us : List Tr), vs = [.ref a, .str l, .str r, .ref pb, .ref po] ∧ H a = some (.ins A.c_If dx []) ∧ OperT l ∧ OperT r ∧ SqT K H pb (bs.map V.ref) ∧ StsT K A H bs ts ∧ SqT K H po (os.map V.ref) ∧ StsT K A H os us ∧ amB ts + amB us ≤ 39 ∧ max (lvB ts) (lvB us) ≤ 4 ∧ ∀ H', StT K A H' a (.cond l r ts us) → KeepBut a H H' → Q .non H'
theorem ok_If___init__ (T : Txt K mg A) : FnOk P w K mg base CX0 5 A.a_If___init__ A.d_If___init__ ["self", "left", "right", "body", "otherwise"] (spIf K A) := by
  have nd := ss_If___init__.nd
  refine T.f_If___init__.ok ss_If___init__ (ar := _) rfl rfl rfl (fun vs H Q E h => ?_) (fun cdv A' outer s H vs Q E hr S h => ?_)
  · obtain ⟨a, dx, pb, po, l, r, bs, os, ts, us, rfl, _⟩ := h
    rfl
  · obtain ⟨a, dx, pb, po, z0, z1, bs, os, ts, us, rfl, ha, hz0, hz1, hb, st, ho, so, h39, h4, k⟩ := h
    have mem : A.c_If ∈ A.fam := List.mem_of_getElem? (show A.fam[7]? = some A.c_If from rfl)
    have fc := T.fam _ mem
    refine ⟨_, (psa_cons (ps_expr (pe_call (ok_check_operand T) (hr.mono (by decide)) (by rfl) T.m_check_operand T.k_check_operand T.v_check_operand .nil pass0 (pa_cons (pv 1) pa_nil)))
      (psa_cons (ps_expr (pe_call (ok_check_operand T) (hr.mono (by decide)) (by rfl) T.m_check_operand T.k_check_operand T.v_check_operand .nil pass0 (pa_cons (pv 2) pa_nil)))
      (psa_cons (ps_expr (pe_call (ok_check_body T) (hr.mono (by decide)) (by rfl) T.m_check_body T.k_check_body T.v_check_body .nil pass0 (pa_cons (pv 3) pa_nil)))
      (psa_cons (ps_expr (pe_call (ok_check_body T) (hr.mono (by decide)) (by rfl) T.m_check_body T.k_check_body T.v_check_body .nil pass0 (pa_cons (pv 4) pa_nil)))
      (psa_sup S ((ok_Statement___init__ T).raw (dvs := []) T.vd_Statement___init___4 .nil) (hr.mono (by decide)) pass0 (pa_cons (pe_fs (.cons pe_str (.cons (pe_fmt (pv 1)) (.cons pe_str (.cons (pe_fmt (pv 2)) .nil))))) (pa_cons (pe_tup (pa_cons (pv 1) (pa_cons (pv 2) pa_nil))) (pa_cons (pv 3) (pa_cons (pv 4) pa_nil)))) (psa_any (pss_cons (ps_fld (pv 0) (pv 1) rfl)
      (pss_one (ps_fld (pv 0) (pv 2) rfl)))) T.b_super T.fi_Statement___init__ T.ft_Statement___init__))))), ?_⟩
    refine ⟨_, rfl, .str z0, .str, rfl, hz0.th H, hz0.1, fun H1 s1 => ?_⟩
    have q1 := s1
    refine ⟨_, rfl, .str z1, .str, rfl, hz1.th H1, hz1.1, fun H2 s2 => ?_⟩
    have q2 := q1.trans s2
    refine ⟨_, rfl, pb, bs, ts, rfl, (KpT.of_same q2).sq hb, st.mv (KpT.of_same q2), fun _ _ => trivial, fun H3 s3 => ?_⟩
    have q3 := q2.trans s3
    refine ⟨_, rfl, po, os, us, rfl, (KpT.of_same q3).sq ho, so.mv (KpT.of_same q3), fun _ _ => trivial, fun H4 s4 => ?_⟩
    have q4 := q3.trans s4
    refine ⟨a, A.c_If, dx, [], rfl, q4 _ _ ha, T.slf _ mem, T.sup _ mem, fun q hq => ?_⟩
    have sq := q4.trans (same_new (o := .met A.a_Statement___init__ a) hq)
    have l0 : (Str.empty).length = 0 := rfl
    have l1 : (" is " : Str).length = 4 := rfl
    have l2 : ("if " : Str).length = 3 := rfl
    have mz0 := hz0.2.2
    have mz1 := hz1.2.2
    refine ⟨("if " : Str), rfl, (len5000 (by simp only [app_length, l0, l1, l2]; omega)), _, rfl, Or.inl ⟨z0, rfl, len5000 (by omega), z0, rfl, (len5000 (by simp only [app_length, l0, l1, l2]; omega)), (" is " : Str), rfl, (len5000 (by simp only [app_length, l0, l1, l2]; omega)), _, rfl, Or.inl ⟨z1, rfl, len5000 (by omega), z1, rfl, (len5000 (by simp only [app_length, l0, l1, l2]; omega)), _, rfl, _, rfl, (by show 2 ≤ sizeLine; decide), fun pm hpm => ?_⟩⟩⟩
    have sm := sq.trans (same_new (o := .tup [.str z0, .str z1]) hpm)
    have hm : (upd (upd H4 q (.met A.a_Statement___init__ a)) pm (.tup [.str z0, .str z1])) q = some (.met A.a_Statement___init__ a) := same_new hpm _ _ upd_same
    have km := KpT.of_same sm
    obtain ⟨e1, e2, e3, e4, e5⟩ := st.sums
    obtain ⟨o1, o2, o3, o4, o5⟩ := so.sums
    have ll : ("if " ++ z0 ++ " is " ++ z1 : Str).length ≤ 200 := by
      simp only [app_length, l1, l2]
      omega
    have la : AlnT ("if " ++ z0 ++ " is " ++ z1 : Str) := aln_app (aln_app (aln_app (aln_by (by decide +kernel)) hz0.2.1) (aln_by (by decide +kernel))) hz1.2.1
    refine ⟨_, rfl, _, rfl, hm, a, A.c_If, dx, pm, pb, po, _, partsOf bs ts, partsOf os us, rfl, mem, sm _ _ ha, by rw [e1]; exact km.sq hb, by rw [o1]; exact km.sq ho, (st.mv km).parts, (so.mv km).parts, by rw [e2, o2]; exact h39, by rw [maxL_app, e3, o3]; exact h4, ?_, ?_, fun ps pr H' h1 h2 h3 kb => ?_⟩
    · rw [emp_app]
      exact ll
    · rw [emp_app]
      exact la
    rw [emp_app] at h3
    refine ⟨_, rfl, _, rfl, a, _, dx, _, rfl, h1, fc.cl, fc.na _ (by decide +kernel), (by show 7 < 1000; decide), ?_⟩
    refine ⟨_, rfl, _, rfl, a, _, dx, _, rfl, upd_same, fc.cl, fc.na _ (by decide +kernel), (by show 8 < 1000; decide), ?_⟩
    have n1 : ps ≠ a := ne_of h2 h1 (by intro z; cases z)
    have n2 : pr ≠ a := ne_of h3 h1 (by intro z; cases z)
    have kf : KeepBut a H (upd (upd H' a (.ins A.c_If dx [("size", .ref ps), ("mentioned", .ref pm), ("body", .ref pb), ("otherwise", .ref po), ("cell", .non), ("into", .non), ("rows", .ref pr), ("left", .str z0)])) a (.ins A.c_If dx [("size", .ref ps), ("mentioned", .ref pm), ("body", .ref pb), ("otherwise", .ref po), ("cell", .non), ("into", .non), ("rows", .ref pr), ("left", .str z0), ("right", .str z1)])) := by
      intro b o nb e
      rw [upd_ne nb, upd_ne nb]
      exact kb _ _ nb (sm _ _ e)
    have kn := KpT.new ha kf
    exact k _ (mk_st (t := .cond z0 z1 ts us) (H := H) (bs := bs) (os := os) rfl upd_same rfl rfl rfl rfl rfl st so (kn.sq hb) (kn.sq ho) kn ((upd_ne n1).trans ((upd_ne n1).trans h2)) ((upd_ne n2).trans ((upd_ne n2).trans h3)) h39 h4 ll la) kf
end
end K04
set_option Elab.async false
set_option linter.all false
set_option maxRecDepth 100000
set_option maxHeartbeats 4000000
namespace K04
open PySem PySem.Spec PyProof.Rows L2 Mo
/-! every joined body holds what may be joined -/
mutual
def okT : Tr → Bool
  | .one _ _ _ => true
  | .cond _ _ b e => okB b && okB e
  | .loop b => okB b
  | .joined b => goB b && okB b
def okB : List Tr → Bool
  | [] => true
  | t :: ts => okT t && okB ts
end
theorem okB_nil : okB [] = true := by rw [okB]
theorem okB_cons (t : Tr) (ts : List Tr) : okB (t :: ts) = (okT t && okB ts) := by rw [okB]
theorem okB_all : ∀ ts : List Tr, okB ts = ts.all okT
  | [] => by rw [okB_nil]; rfl
  | t :: ts => by rw [okB_cons, okB_all ts]; rfl
theorem okT_in {t : Tr} (h : okT t = true) : okB t.inner = true ∧ okB t.outer = true := by
  cases t with
  | one k xs l => exact ⟨okB_nil, okB_nil⟩
  | cond l r b e =>
    rw [okT, Bool.and_eq_true] at h
    exact h
  | loop b =>
    rw [okT] at h
    exact ⟨h, okB_nil⟩
  | joined b =>
    rw [okT, Bool.and_eq_true] at h
    exact ⟨h.2, okB_nil⟩
abbrev scHold : Scope := { kind := .function, names := [(".0", NameKind.«local»), ("_law_side", NameKind.«local»), ("tuple", .globalImplicit), ("_law_source_here", .cell)], isGenerator := false, isCoroutine := false }
def rTupOf (K : PySem.W.Frag) : List V → Hp → VK → Prop := fun xs H Q => ∃ p ys, xs = [.ref p] ∧ ((SqL K H p ys ∧ ∀ l, H l = none → Q (.ref l) (upd H l (.tup ys))) ∨ (SqT K H p ys ∧ Q (.ref p) H))
theorem _root_.Mo.Src.kp {H H' : Hp} {a : Addr} (s : Src H a) (k : KeepBut a H H') : KpT H H' := by
  obtain ⟨x, y, c, h, _⟩ := s
  exact KpT.lst h k
section
variable {w : World} {K : PySem.W.Frag} {mg : Str → Option Value} {base : Heap} {A : Ads}
/-- statements made of trees, one after the other, in a list -/
theorem made_lc {J : It} {n : Nat} {G : Hp → Prop} {Y : Nat → Hp → V → Hp → Prop} (W : Walk J n G Y) {H6 : Hp} {a : Addr} {pbs : List Addr} {ts : List Tr} (hY : ∀ i H x H', Y i H x H' → H' = H ∧ (pbs.map V.ref)[i]? = some x) (hn : n = pbs.length) (hG : ∀ H', KeepBut a H6 H' → G H')
    (trb : TrsAt K H6 pbs ts) (src : Src H6 a) {σ : L2.St} {vs : List Nat} {D : Addr} {Qd : Hp → Prop} {te : TE} {i6 : Nat} (hD : H6 D = none)
    (hm : ∀ (r : Addr) (t : Tr) (H7 : Hp) (R : VK), t ∈ ts → TrAt K H7 r t → Src H7 a → (∀ (q : Addr) (H8 : Hp), StT K A H8 q t → Src H8 a → KeepBut a H7 H8 → R (.ref q) H8) → te ((wipe σ vs).set i6 (some (.ref r))) H7 R)
    (hw : ∀ x, wipe ((wipe σ vs).set i6 x) vs = wipe σ vs) (hl : ts.length ≤ 1000) (hq : ∀ (H7 : Hp) (qs : List Addr), KeepBut a H6 H7 → Src H7 a → H7 D = some (.lst (qs.map V.ref)) → StsT K A H7 qs ts → Qd H7) :
    ∃ W : Nat → Nat → Hp → Prop, (∃ m, W 0 m (upd H6 D (.lst []))) ∧ ∀ i m H, W i m H →
      (J.stop i H ∧ Qd H) ∨ (J.go i H ∧ ∃ Nx : Hp → Prop, (∀ H', Nx H' → ∃ m', m' < m ∧ W (i + 1) m' H') ∧ ∀ x H', J.yld i H x H' → gName i6 x (wipe σ vs) H' fun σ2 H2 => wipe σ2 vs = wipe σ vs ∧ tYes σ2 H2 fun b H3 =>
        if b = true then te σ2 H3 fun y H4 => ∃ acc, H4 D = some (.lst acc) ∧ acc.length < sizeLine ∧ Nx (upd H4 D (.lst (acc ++ [y]))) else Nx H3) := by
  have nDa : D ≠ a := src.fresh hD
  have len := trb.len
  refine lc_it W (g := gName i6) (tt := tYes) (te := te) (fun i H7 => KeepBut a H6 H7 ∧ Src H7 a ∧ ∃ qs : List Addr, H7 D = some (.lst (qs.map V.ref)) ∧ StsT K A H7 qs (ts.take i)) ⟨KeepBut.of_same (same_new hD), src.same (same_new hD), [], upd_same, .nil⟩ (fun i H7 _ h => hG H7 h.1) ?_ ?_
  · rintro i x H1 H2 hi ⟨kb, s7, qs, hd, st⟩ hy
    obtain ⟨rfl, hx⟩ := hY _ _ _ _ hy
    rw [List.getElem?_map] at hx
    obtain ⟨r, hr, rfl⟩ := Option.map_eq_some_iff.mp hx
    obtain ⟨t, ht, trt⟩ := trb.get hr
    refine ⟨hw _, ?_⟩
    refine hm r t H2 _ (List.mem_of_getElem? ht) (trt.mv (src.kp kb)) s7 fun q H8 st8 s8 kb8 => ?_
    have hd8 := kb8 _ _ nDa hd
    have ll := st.len
    rw [List.length_take] at ll
    have il := (List.getElem?_eq_some_iff.mp ht).1
    refine ⟨_, hd8, ?_, ?_, s8.upd nDa, qs ++ [q], ?_, ?_⟩
    · rw [List.length_map]
      exact lt5000 (by omega)
    · intro b o nb e
      rw [upd_ne (ne_of_none e hD)]
      exact kb8 _ _ nb (kb _ _ nb e)
    · rw [upd_same, List.map_append]
      rfl
    · rw [List.take_add_one, ht]
      have k2 := KpT.lst hd8 (KeepBut.upd D H8 (.lst (qs.map V.ref ++ [.ref q])))
      exact ((st.mv (s7.kp kb8)).mv k2).app (.cons (st8.mv k2) .nil)
  · rintro H7 ⟨kb, s7, qs, hd, st⟩
    rw [List.take_of_length_le (by omega)] at st
    exact hq H7 qs kb s7 hd st
theorem one_st {H : Hp} {q : Addr} {k : Nat} {xs : List Str} {line : Str} (h : StAt K A H q ⟨k, 1, 1, [line]⟩ [] []) : StT K A H q (.one k xs line) := by
  refine .mk (bs := []) (os := []) ?_ .nil .nil
  have e : sdT (.one k xs line) = ⟨k, 1, 1, [line]⟩ := by simp [sdT, amT, lvT, rowsT, Tr.k]
  rw [e]
  exact h
theorem made_fin {H H2 H' : Hp} {a x dx C : Addr} (src : Src H2 a) (kb : KeepBut a H H2) (nx : H2 x = none) (ndx : H2 dx = none) (nex : dx ≠ x) (h : KeepBut x (upd (upd H2 dx (.own x)) x (.ins C dx [])) H') (hn : x ≠ a) : Src H' a ∧ KeepBut a H H' := by
  have k2 : ∀ b o, H2 b = some o → H' b = some o := by
    intro b o e
    have n1 : b ≠ x := ne_of_none e nx
    have n2 : b ≠ dx := ne_of_none e ndx
    refine h b o n1 ?_
    rw [upd_ne n1, upd_ne n2]
    exact e
  obtain ⟨x1, y1, c1, e1, r⟩ := src
  exact ⟨⟨x1, y1, c1, k2 _ _ e1, r⟩, fun b o nb e => k2 _ _ (kb b o nb e)⟩
def spMade (K : PySem.W.Frag) (A : Ads) (n : Nat) : Sp := fun vs H Q _ => ∃ (a p : Addr) (t : Tr), vs = [.ref a, .ref p] ∧ Src H a ∧ TrAt K H p t ∧ lvT t ≤ n ∧ lvT t ≤ 5 ∧ amT t ≤ 40 ∧ okT t = true ∧
  ∀ (q : Addr) (H' : Hp), StT K A H' q t → Src H' a → KeepBut a H H' → Q (.ref q) H'
def spHolding (K : PySem.W.Frag) (A : Ads) (n : Nat) : Sp := fun vs H Q _ => ∃ (a p : Addr) (t : Tr) (d : Int), vs = [.ref a, .ref p, .int d] ∧ (d = 0 ∨ d = 1) ∧ Src H a ∧ TrAt K H p t ∧ 7 ≤ t.k ∧ lvT t ≤ n ∧ lvT t ≤ 5 ∧ amT t ≤ 40 ∧ okT t = true ∧
  ∀ (q : Addr) (H' : Hp), StT K A H' q t → Src H' a → KeepBut a H H' → Q (.ref q) H'
theorem made_step (T : Txt K mg A) (n : Nat) (ih : FnOk P w K mg base CX0 (2 * n + 11) A.a_law_holding A.d_law_holding ["_law_source_here", "_law_tree", "_law_way"] (spHolding K A n)) :
    FnOk P w K mg base CX0 (2 * n + 12) A.a_law_made A.d_law_made ["_law_source_here", "_law_tree"] (spMade K A n) := by
  have nd := sc_law_made.nd
  refine T.f_law_made.ok sc_law_made (fun vs H Q E h => ?_) (fun cdv A' outer s H vs Q E hr h => ?_)
  · obtain ⟨a, p, t, rfl, _⟩ := h
    rfl
  · obtain ⟨a, p, t, rfl, src, trt, hln, h5, h40, hok, q⟩ := h
    refine ⟨_, (pss_cons (ps_par (i := 2) (j := 3) rfl nd rfl rfl (by decide) rfl rfl (pa_cons (pe_call (ok_law_take T) (hr.mono (by omega)) (by rfl) T.m_law_take T.k_law_take T.v_law_take .nil pass0 (pa_cons (pv 0) (pa_cons pe_int pa_nil))) (pa_cons (pe_ix ix_tup (pv 1) pe_int (fun _ _ => rfl)) pa_nil)) (by rfl))
      (pss_cons (ps_if (pt_cmpR op_eq (pv 3) pe_str (nomark _)) (pss_one (ps_ret (pe_ifExp (pt_cmpR op_eq (pv 2) pe_int (nomark _)) (pe_make T.mk_Look (ok_Look___init__ T) (hr.mono (by omega)) (by rfl) T.m_Look T.v_Look___init__ .nil pass0 (pa_cons (pe_ix ix_tup (pv 1) pe_int (fun _ _ => rfl)) (pa_cons (pe_ix ix_tup (pv 1) pe_int (fun _ _ => rfl)) pa_nil))) (pe_makeK0 T.mk_Look (ok_Look___init__ T) (hr.mono (by omega)) (by rfl) T.m_Look T.kb_Look pass0 (pk_cons (pe_ix ix_tup (pv 1) pe_int (fun _ _ => rfl)) (pk_cons (pe_ix ix_tup (pv 1) pe_int (fun _ _ => rfl)) pk_nil)))))) pss_nil)
      (pss_cons (ps_if (pt_cmpR op_eq (pv 3) pe_str (nomark _)) (pss_one (ps_ret (pe_ifExp (pt_cmpR op_eq (pv 2) pe_int (nomark _)) (pe_make T.mk_Put (ok_Put___init__ T) (hr.mono (by omega)) (by rfl) T.m_Put T.v_Put___init__ .nil pass0 (pa_cons (pe_ix ix_tup (pv 1) pe_int (fun _ _ => rfl)) (pa_cons (pe_ix ix_tup (pv 1) pe_int (fun _ _ => rfl)) pa_nil))) (pe_makeK0 T.mk_Put (ok_Put___init__ T) (hr.mono (by omega)) (by rfl) T.m_Put T.kb_Put pass0 (pk_cons (pe_ix ix_tup (pv 1) pe_int (fun _ _ => rfl)) (pk_cons (pe_ix ix_tup (pv 1) pe_int (fun _ _ => rfl)) pk_nil)))))) pss_nil)
      (pss_cons (ps_if (pt_cmpR op_eq (pv 3) pe_str (nomark _)) (pss_one (ps_ret (pe_ifExp (pt_cmpR op_eq (pv 2) pe_int (nomark _)) (pe_make T.mk_Swap (ok_Swap___init__ T) (hr.mono (by omega)) (by rfl) T.m_Swap T.v_Swap___init__ .nil pass0 (pa_cons (pe_ix ix_tup (pv 1) pe_int (fun _ _ => rfl)) (pa_cons (pe_ix ix_tup (pv 1) pe_int (fun _ _ => rfl)) (pa_cons (pe_ix ix_tup (pv 1) pe_int (fun _ _ => rfl)) pa_nil)))) (pe_makeK0 T.mk_Swap (ok_Swap___init__ T) (hr.mono (by omega)) (by rfl) T.m_Swap T.kb_Swap pass0 (pk_cons (pe_ix ix_tup (pv 1) pe_int (fun _ _ => rfl)) (pk_cons (pe_ix ix_tup (pv 1) pe_int (fun _ _ => rfl)) (pk_cons (pe_ix ix_tup (pv 1) pe_int (fun _ _ => rfl)) pk_nil))))))) pss_nil)
      (pss_cons (ps_if (PW.pt (pw_and (pt_cmpR op_eq (pv 3) pe_str (nomark _)) (pw_and1 (pt_cmpR op_eq (pv 2) pe_int (nomark _))))) (pss_one (ps_ret (pe_make T.mk_Try (ok_Try___init__ T) (hr.mono (by omega)) (by rfl) T.m_Try T.v_Try___init__ .nil pass0 (pa_cons (pe_ix ix_tup (pv 1) pe_int (fun _ _ => rfl)) (pa_cons (pe_ix ix_tup (pv 1) pe_int (fun _ _ => rfl)) (pa_cons (pe_ix ix_tup (pv 1) pe_int (fun _ _ => rfl)) (pa_cons (pe_ix ix_tup (pv 1) pe_int (fun _ _ => rfl)) pa_nil))))))) pss_nil)
      (pss_cons (ps_if (pt_cmpR op_eq (pv 3) pe_str (nomark _)) (pss_one (ps_ret (pe_makeK0 T.mk_Try (ok_Try___init__ T) (hr.mono (by omega)) (by rfl) T.m_Try T.kb_Try pass0 (pk_cons (pe_ix ix_tup (pv 1) pe_int (fun _ _ => rfl)) (pk_cons (pe_ix ix_tup (pv 1) pe_int (fun _ _ => rfl)) (pk_cons (pe_ix ix_tup (pv 1) pe_int (fun _ _ => rfl)) (pk_cons (pe_ix ix_tup (pv 1) pe_int (fun _ _ => rfl)) pk_nil))))))) pss_nil)
      (pss_cons (ps_if (pt_cmpR op_eq (pv 3) pe_str (nomark _)) (pss_one (ps_ret (pe_ifExp (pt_cmpR op_eq (pv 2) pe_int (nomark _)) (pe_make T.mk_Let (ok_Let___init__ T) (hr.mono (by omega)) (by rfl) T.m_Let T.v_Let___init__ .nil pass0 (pa_cons (pe_ix ix_tup (pv 1) pe_int (fun _ _ => rfl)) (pa_cons (pe_ix ix_tup (pv 1) pe_int (fun _ _ => rfl)) pa_nil))) (pe_makeK0 T.mk_Let (ok_Let___init__ T) (hr.mono (by omega)) (by rfl) T.m_Let T.kb_Let pass0 (pk_cons (pe_ix ix_tup (pv 1) pe_int (fun _ _ => rfl)) (pk_cons (pe_ix ix_tup (pv 1) pe_int (fun _ _ => rfl)) pk_nil)))))) pss_nil)
      (pss_cons (ps_if (pt_cmpR op_eq (pv 3) pe_str (nomark _)) (pss_one (ps_ret (pe_ifExp (pt_cmpR op_eq (pv 2) pe_int (nomark _)) (pe_make T.mk_Return (ok_Return___init__ T) (hr.mono (by omega)) (by rfl) T.m_Return T.v_Return___init__ .nil pass0 (pa_cons (pe_ix ix_tup (pv 1) pe_int (fun _ _ => rfl)) pa_nil)) (pe_makeK0 T.mk_Return (ok_Return___init__ T) (hr.mono (by omega)) (by rfl) T.m_Return T.kb_Return pass0 (pk_cons (pe_ix ix_tup (pv 1) pe_int (fun _ _ => rfl)) pk_nil))))) pss_nil)
      (pss_one (ps_ret (pe_ifExp (pt_cmpR op_eq (pv 3) pe_str (nomark _)) (pe_make0 T.mk_Leave (ok_Leave___init__ T) (hr.mono (by omega)) (by rfl) T.m_Leave T.v_Leave___init__ .nil pass0) (pe_call ih (hr.mono (by omega)) (by rfl) T.m_law_holding T.k_law_holding T.v_law_holding .nil pass0 (pa_cons (pv 0) (pa_cons (pv 1) (pa_cons (pv 2) pa_nil))))))))))))))), ?_⟩
    refine ⟨_, rfl, a, _, rfl, src, by decide, by decide, fun d H2 d0 d1 src2 kb2 => ?_⟩
    have trt2 := trt.mv (src.kp kb2)
    have d2 : d = 0 ∨ d = 1 := by omega
    cases trt2 with
    | @one _ k xs line h o =>
      have hq : SqT K H2 p (xs.map V.str) := SqT.of h
      cases o with
      | @look c i hc hi =>
        refine ⟨_, rfl, p, _, _, _, rfl, rfl, hq, atI_nat (j := 0) rfl, _, _, rfl, ?_⟩
        refine ⟨_, rfl, rfl, _, rfl, ?_⟩
        refine ⟨_, rfl, rfl, _, rfl, ?_⟩
        rcases d2 with rfl | rfl
        · refine ⟨_, rfl, p, _, _, _, rfl, rfl, hq, atI_nat (j := 1) rfl, _, rfl, p, _, _, _, rfl, rfl, hq, atI_nat (j := 2) rfl, fun x dx nx ndx nex => ⟨x, dx, c, i, rfl, upd_same, hc, hi, fun H' st kb => ⟨rfl, ?_⟩⟩⟩
          have nxa : x ≠ a := src2.fresh nx
          obtain ⟨f1, f2⟩ := made_fin src2 kb2 nx ndx nex kb nxa
          exact q x H' (one_st st) f1 f2
        · refine ⟨_, rfl, p, _, _, _, rfl, rfl, hq, atI_nat (j := 2) rfl, _, rfl, p, _, _, _, rfl, rfl, hq, atI_nat (j := 1) rfl, rfl, rfl, fun x dx nx ndx nex => ⟨x, dx, c, i, rfl, upd_same, hc, hi, fun H' st kb => ⟨rfl, ?_⟩⟩⟩
          have nxa : x ≠ a := src2.fresh nx
          obtain ⟨f1, f2⟩ := made_fin src2 kb2 nx ndx nex kb nxa
          exact q x H' (one_st st) f1 f2
      | @put c o hc ho =>
        refine ⟨_, rfl, p, _, _, _, rfl, rfl, hq, atI_nat (j := 0) rfl, _, _, rfl, ?_⟩
        refine ⟨_, rfl, rfl, _, rfl, ?_⟩
        refine ⟨_, rfl, rfl, _, rfl, ?_⟩
        refine ⟨_, rfl, rfl, _, rfl, ?_⟩
        rcases d2 with rfl | rfl
        · refine ⟨_, rfl, p, _, _, _, rfl, rfl, hq, atI_nat (j := 1) rfl, _, rfl, p, _, _, _, rfl, rfl, hq, atI_nat (j := 2) rfl, fun x dx nx ndx nex => ⟨x, dx, c, o, rfl, upd_same, hc, ho, fun H' st kb => ⟨rfl, ?_⟩⟩⟩
          have nxa : x ≠ a := src2.fresh nx
          obtain ⟨f1, f2⟩ := made_fin src2 kb2 nx ndx nex kb nxa
          exact q x H' (one_st st) f1 f2
        · refine ⟨_, rfl, p, _, _, _, rfl, rfl, hq, atI_nat (j := 2) rfl, _, rfl, p, _, _, _, rfl, rfl, hq, atI_nat (j := 1) rfl, rfl, rfl, fun x dx nx ndx nex => ⟨x, dx, c, o, rfl, upd_same, hc, ho, fun H' st kb => ⟨rfl, ?_⟩⟩⟩
          have nxa : x ≠ a := src2.fresh nx
          obtain ⟨f1, f2⟩ := made_fin src2 kb2 nx ndx nex kb nxa
          exact q x H' (one_st st) f1 f2
      | @swap c o i hc ho hi =>
        refine ⟨_, rfl, p, _, _, _, rfl, rfl, hq, atI_nat (j := 0) rfl, _, _, rfl, ?_⟩
        refine ⟨_, rfl, rfl, _, rfl, ?_⟩
        refine ⟨_, rfl, rfl, _, rfl, ?_⟩
        refine ⟨_, rfl, rfl, _, rfl, ?_⟩
        refine ⟨_, rfl, rfl, _, rfl, ?_⟩
        rcases d2 with rfl | rfl
        · refine ⟨_, rfl, p, _, _, _, rfl, rfl, hq, atI_nat (j := 1) rfl, _, rfl, p, _, _, _, rfl, rfl, hq, atI_nat (j := 2) rfl, _, rfl, p, _, _, _, rfl, rfl, hq, atI_nat (j := 3) rfl, fun x dx nx ndx nex => ⟨x, dx, c, o, i, rfl, upd_same, hc, ho, hi, fun H' st kb => ⟨rfl, ?_⟩⟩⟩
          have nxa : x ≠ a := src2.fresh nx
          obtain ⟨f1, f2⟩ := made_fin src2 kb2 nx ndx nex kb nxa
          exact q x H' (one_st st) f1 f2
        · refine ⟨_, rfl, p, _, _, _, rfl, rfl, hq, atI_nat (j := 3) rfl, _, rfl, p, _, _, _, rfl, rfl, hq, atI_nat (j := 1) rfl, _, rfl, p, _, _, _, rfl, rfl, hq, atI_nat (j := 2) rfl, rfl, rfl, fun x dx nx ndx nex => ⟨x, dx, c, o, i, rfl, upd_same, hc, ho, hi, fun H' st kb => ⟨rfl, ?_⟩⟩⟩
          have nxa : x ≠ a := src2.fresh nx
          obtain ⟨f1, f2⟩ := made_fin src2 kb2 nx ndx nex kb nxa
          exact q x H' (one_st st) f1 f2
      | @try_ c o n i hc ho hn hi =>
        refine ⟨_, rfl, p, _, _, _, rfl, rfl, hq, atI_nat (j := 0) rfl, _, _, rfl, ?_⟩
        refine ⟨_, rfl, rfl, _, rfl, ?_⟩
        refine ⟨_, rfl, rfl, _, rfl, ?_⟩
        refine ⟨_, rfl, rfl, _, rfl, ?_⟩
        refine ⟨_, rfl, rfl, _, rfl, ?_⟩
        refine ⟨_, rfl, rfl, _, rfl, ?_⟩
        rcases d2 with rfl | rfl
        · refine ⟨_, rfl, p, _, _, _, rfl, rfl, hq, atI_nat (j := 1) rfl, _, rfl, p, _, _, _, rfl, rfl, hq, atI_nat (j := 2) rfl, _, rfl, p, _, _, _, rfl, rfl, hq, atI_nat (j := 3) rfl, _, rfl, p, _, _, _, rfl, rfl, hq, atI_nat (j := 4) rfl, fun x dx nx ndx nex => ⟨x, dx, c, o, n, i, rfl, upd_same, hc, ho, hn, hi, fun H' st kb => ⟨rfl, ?_⟩⟩⟩
          have nxa : x ≠ a := src2.fresh nx
          obtain ⟨f1, f2⟩ := made_fin src2 kb2 nx ndx nex kb nxa
          exact q x H' (one_st st) f1 f2
        · refine ⟨_, rfl, rfl, _, rfl, ?_⟩
          refine ⟨_, rfl, p, _, _, _, rfl, rfl, hq, atI_nat (j := 4) rfl, _, rfl, p, _, _, _, rfl, rfl, hq, atI_nat (j := 3) rfl, _, rfl, p, _, _, _, rfl, rfl, hq, atI_nat (j := 2) rfl, _, rfl, p, _, _, _, rfl, rfl, hq, atI_nat (j := 1) rfl, rfl, rfl, fun x dx nx ndx nex => ⟨x, dx, c, o, n, i, rfl, upd_same, hc, ho, hn, hi, fun H' st kb => ⟨rfl, ?_⟩⟩⟩
          have nxa : x ≠ a := src2.fresh nx
          obtain ⟨f1, f2⟩ := made_fin src2 kb2 nx ndx nex kb nxa
          exact q x H' (one_st st) f1 f2
      | @let_ i o hi ho =>
        refine ⟨_, rfl, p, _, _, _, rfl, rfl, hq, atI_nat (j := 0) rfl, _, _, rfl, ?_⟩
        refine ⟨_, rfl, rfl, _, rfl, ?_⟩
        refine ⟨_, rfl, rfl, _, rfl, ?_⟩
        refine ⟨_, rfl, rfl, _, rfl, ?_⟩
        refine ⟨_, rfl, rfl, _, rfl, ?_⟩
        refine ⟨_, rfl, rfl, _, rfl, ?_⟩
        refine ⟨_, rfl, rfl, _, rfl, ?_⟩
        refine ⟨_, rfl, rfl, _, rfl, ?_⟩
        rcases d2 with rfl | rfl
        · refine ⟨_, rfl, p, _, _, _, rfl, rfl, hq, atI_nat (j := 1) rfl, _, rfl, p, _, _, _, rfl, rfl, hq, atI_nat (j := 2) rfl, fun x dx nx ndx nex => ⟨x, dx, i, o, rfl, upd_same, hi, ho, fun H' st kb => ⟨rfl, ?_⟩⟩⟩
          have nxa : x ≠ a := src2.fresh nx
          obtain ⟨f1, f2⟩ := made_fin src2 kb2 nx ndx nex kb nxa
          exact q x H' (one_st st) f1 f2
        · refine ⟨_, rfl, p, _, _, _, rfl, rfl, hq, atI_nat (j := 2) rfl, _, rfl, p, _, _, _, rfl, rfl, hq, atI_nat (j := 1) rfl, rfl, rfl, fun x dx nx ndx nex => ⟨x, dx, i, o, rfl, upd_same, hi, ho, fun H' st kb => ⟨rfl, ?_⟩⟩⟩
          have nxa : x ≠ a := src2.fresh nx
          obtain ⟨f1, f2⟩ := made_fin src2 kb2 nx ndx nex kb nxa
          exact q x H' (one_st st) f1 f2
      | leave =>
        refine ⟨_, rfl, p, _, _, _, rfl, rfl, hq, atI_nat (j := 0) rfl, _, _, rfl, ?_⟩
        refine ⟨_, rfl, rfl, _, rfl, ?_⟩
        refine ⟨_, rfl, rfl, _, rfl, ?_⟩
        refine ⟨_, rfl, rfl, _, rfl, ?_⟩
        refine ⟨_, rfl, rfl, _, rfl, ?_⟩
        refine ⟨_, rfl, rfl, _, rfl, ?_⟩
        refine ⟨_, rfl, rfl, _, rfl, ?_⟩
        refine ⟨_, rfl, rfl, _, rfl, ?_⟩
        refine ⟨_, rfl, rfl, _, rfl, ?_⟩
        refine fun x dx nx ndx nex => ⟨x, dx, rfl, upd_same, fun H' st kb => ⟨rfl, ?_⟩⟩
        have nxa : x ≠ a := src2.fresh nx
        obtain ⟨f1, f2⟩ := made_fin src2 kb2 nx ndx nex kb nxa
        exact q x H' (one_st st) f1 f2
      | @ret o ho =>
        refine ⟨_, rfl, p, _, _, _, rfl, rfl, hq, atI_nat (j := 0) rfl, _, _, rfl, ?_⟩
        refine ⟨_, rfl, rfl, _, rfl, ?_⟩
        refine ⟨_, rfl, rfl, _, rfl, ?_⟩
        refine ⟨_, rfl, rfl, _, rfl, ?_⟩
        refine ⟨_, rfl, rfl, _, rfl, ?_⟩
        refine ⟨_, rfl, rfl, _, rfl, ?_⟩
        refine ⟨_, rfl, rfl, _, rfl, ?_⟩
        refine ⟨_, rfl, rfl, _, rfl, ?_⟩
        refine ⟨_, rfl, rfl, _, rfl, ?_⟩
        rcases d2 with rfl | rfl
        · refine ⟨_, rfl, p, _, _, _, rfl, rfl, hq, atI_nat (j := 1) rfl, fun x dx nx ndx nex => ⟨x, dx, o, rfl, upd_same, ho, fun H' st kb => ⟨rfl, ?_⟩⟩⟩
          have nxa : x ≠ a := src2.fresh nx
          obtain ⟨f1, f2⟩ := made_fin src2 kb2 nx ndx nex kb nxa
          exact q x H' (one_st st) f1 f2
        · refine ⟨_, rfl, p, _, _, _, rfl, rfl, hq, atI_nat (j := 1) rfl, rfl, rfl, fun x dx nx ndx nex => ⟨x, dx, o, rfl, upd_same, ho, fun H' st kb => ⟨rfl, ?_⟩⟩⟩
          have nxa : x ≠ a := src2.fresh nx
          obtain ⟨f1, f2⟩ := made_fin src2 kb2 nx ndx nex kb nxa
          exact q x H' (one_st st) f1 f2
    | @cond _ pb pe l r b e ps qs h hl hr2 hb he tb te =>
      have hq : SqT K H2 p [.str "if", .str l, .str r, .ref pb, .ref pe] := SqT.of h
      refine ⟨_, rfl, p, _, _, _, rfl, rfl, hq, atI_nat (j := 0) rfl, _, _, rfl, ?_⟩
      refine ⟨_, rfl, rfl, _, rfl, ?_⟩
      refine ⟨_, rfl, rfl, _, rfl, ?_⟩
      refine ⟨_, rfl, rfl, _, rfl, ?_⟩
      refine ⟨_, rfl, rfl, _, rfl, ?_⟩
      refine ⟨_, rfl, rfl, _, rfl, ?_⟩
      refine ⟨_, rfl, rfl, _, rfl, ?_⟩
      refine ⟨_, rfl, rfl, _, rfl, ?_⟩
      refine ⟨_, rfl, rfl, _, rfl, ?_⟩
      exact ⟨_, rfl, _, rfl, _, rfl, a, p, _, d, rfl, d2, src2, .cond h hl hr2 hb he tb te, by show 7 ≤ 7; decide, hln, h5, h40, hok, fun x H' st s3 kb3 => q x H' st s3 (kb2.trans kb3)⟩
    | @loop _ pb b ps h hb tb =>
      have hq : SqT K H2 p [.str "loop", .ref pb] := SqT.of h
      refine ⟨_, rfl, p, _, _, _, rfl, rfl, hq, atI_nat (j := 0) rfl, _, _, rfl, ?_⟩
      refine ⟨_, rfl, rfl, _, rfl, ?_⟩
      refine ⟨_, rfl, rfl, _, rfl, ?_⟩
      refine ⟨_, rfl, rfl, _, rfl, ?_⟩
      refine ⟨_, rfl, rfl, _, rfl, ?_⟩
      refine ⟨_, rfl, rfl, _, rfl, ?_⟩
      refine ⟨_, rfl, rfl, _, rfl, ?_⟩
      refine ⟨_, rfl, rfl, _, rfl, ?_⟩
      refine ⟨_, rfl, rfl, _, rfl, ?_⟩
      exact ⟨_, rfl, _, rfl, _, rfl, a, p, _, d, rfl, d2, src2, .loop h hb tb, by show 7 ≤ 8; decide, hln, h5, h40, hok, fun x H' st s3 kb3 => q x H' st s3 (kb2.trans kb3)⟩
    | @joined _ pb b ps h hb tb =>
      have hq : SqT K H2 p [.str "joined", .ref pb] := SqT.of h
      refine ⟨_, rfl, p, _, _, _, rfl, rfl, hq, atI_nat (j := 0) rfl, _, _, rfl, ?_⟩
      refine ⟨_, rfl, rfl, _, rfl, ?_⟩
      refine ⟨_, rfl, rfl, _, rfl, ?_⟩
      refine ⟨_, rfl, rfl, _, rfl, ?_⟩
      refine ⟨_, rfl, rfl, _, rfl, ?_⟩
      refine ⟨_, rfl, rfl, _, rfl, ?_⟩
      refine ⟨_, rfl, rfl, _, rfl, ?_⟩
      refine ⟨_, rfl, rfl, _, rfl, ?_⟩
      refine ⟨_, rfl, rfl, _, rfl, ?_⟩
      exact ⟨_, rfl, _, rfl, _, rfl, a, p, _, d, rfl, d2, src2, .joined h hb tb, by show 7 ≤ 9; decide, hln, h5, h40, hok, fun x H' st s3 kb3 => q x H' st s3 (kb2.trans kb3)⟩
theorem TrAt.kind {H : Hp} {p : Addr} {t : Tr} (h : TrAt K H p t) (k : 7 ≤ t.k) : (∃ l r b e pb pe, t = .cond l r b e ∧ SqT K H p [.str "if", .str l, .str r, .ref pb, .ref pe] ∧ OperT l ∧ OperT r) ∨ (∃ b pb, t = .loop b ∧ SqT K H p [.str "loop", .ref pb]) ∨ (∃ b pb, t = .joined b ∧ SqT K H p [.str "joined", .ref pb]) := by
  cases h with
  | one h o =>
    cases o <;> exact absurd (show 7 ≤ _ from k) (by show ¬ 7 ≤ (_ : Nat); simp [Tr.k])
  | cond h hl hr hb he tb te => exact .inl ⟨_, _, _, _, _, _, rfl, SqT.of h, hl, hr⟩
  | loop h hb tb => exact .inr (.inl ⟨_, _, rfl, SqT.of h⟩)
  | joined h hb tb => exact .inr (.inr ⟨_, _, rfl, SqT.of h⟩)
theorem holding_step (T : Txt K mg A) (n : Nat) (ih : FnOk P w K mg base CX0 (2 * n + 12) A.a_law_made A.d_law_made ["_law_source_here", "_law_tree"] (spMade K A n)) :
    FnOk P w K mg base CX0 (2 * (n + 1) + 11) A.a_law_holding A.d_law_holding ["_law_source_here", "_law_tree", "_law_way"] (spHolding K A (n + 1)) := by
  have nd := sc_law_holding.nd
  refine T.f_law_holding.ok sc_law_holding (fun vs H Q E h => ?_) (fun cdv A' outer s H vs Q E hr h => ?_)
  · obtain ⟨a, p, t, d, rfl, _⟩ := h
    rfl
  · obtain ⟨a, p, t, d, rfl, hd, src, trt, hk, hln, h5, h40, hok, q⟩ := h
    have lte := lvT_eq t
    have ate := amT_eq t
    obtain ⟨oki, oko⟩ := okT_in hok
    rw [okB_all] at oki oko
    refine ⟨_, (pss_cons (ps_asg (pe_lc (own := [("_law_side", 5)]) (g := gName 5) (tt := tYes) rfl nd (pi_list (pe_call (ok_law_bodies T) (hr.mono (by omega)) (by rfl) T.m_law_bodies T.k_law_bodies T.v_law_bodies .nil pass0 (pa_cons (pv 1) pa_nil))) (blkOk_by (N := nm_law_holding) (sc := defScope st_law_holding) (by decide +kernel)) (fun _ _ _ _ _ => (pg_name (i := 5) nd rfl (Or.inl rfl))) (fun _ _ _ _ _ => pts_nil) (fun _ _ _ _ _ => (pe_callTy (show CallR _ _ (rTupOf K) from call_tuple_of) (by rfl) T.b_tuple (by decide +kernel) (pa_cons (pe_lc (own := [("_law_part_here", 6)]) (g := gName 6) (tt := tYes) rfl nd (show PI _ _ _ (iTup K _) from pi_tup (pv 5)) (blkOk_by (N := nm_law_holding) (sc := scHold) (by decide +kernel)) (fun _ _ _ _ _ => (pg_name (i := 6) nd rfl (Or.inl rfl))) (fun _ _ _ _ _ => pts_nil) (fun _ _ _ _ _ => (pe_call ih (hr.mono (by omega)) (by rfl) T.m_law_made T.k_law_made T.v_law_made .nil pass0 (pa_cons (pv 0) (pa_cons (pv 6) pa_nil))))) pa_nil)))) (pg_unl rfl (pgs_cons (pg_name (i := 3) nd rfl (Or.inl rfl)) (pgs_cons (pg_name (i := 4) nd rfl (Or.inl rfl)) pgs_nil))))
      (pss_cons (ps_if (pt_cmpR op_eq (pe_ix ix_tup (pv 1) pe_int (fun _ _ => rfl)) pe_str (nomark _)) (pss_one (ps_ret (pe_ifExp (pt_cmpR op_eq (pv 2) pe_int (nomark _)) (pe_make T.mk_Loop (ok_Loop___init__ T) (hr.mono (by omega)) (by rfl) T.m_Loop T.v_Loop___init__ .nil pass0 (pa_cons (pv 3) pa_nil)) (pe_makeK0 T.mk_Loop (ok_Loop___init__ T) (hr.mono (by omega)) (by rfl) T.m_Loop T.kb_Loop pass0 (pk_cons (pv 3) pk_nil))))) pss_nil)
      (pss_cons (ps_if (pt_cmpR op_eq (pe_ix ix_tup (pv 1) pe_int (fun _ _ => rfl)) pe_str (nomark _)) (pss_one (ps_ret (pe_ifExp (pt_cmpR op_eq (pv 2) pe_int (nomark _)) (pe_make T.mk_Joined (ok_Joined___init__ T) (hr.mono (by omega)) (by rfl) T.m_Joined T.v_Joined___init__ .nil pass0 (pa_cons (pv 3) pa_nil)) (pe_makeK0 T.mk_Joined (ok_Joined___init__ T) (hr.mono (by omega)) (by rfl) T.m_Joined T.kb_Joined pass0 (pk_cons (pv 3) pk_nil))))) pss_nil)
      (pss_cons (ps_if (PW.pt (pw_and (pt_cmpR (op_eqE hr.units0) (pv 4) (pe_tup pa_nil) (nomark _)) (pw_and1 (pt_cmpR op_eq (pv 2) pe_int (nomark _))))) (pss_one (ps_ret (pe_make (dvs := [.ref A.x_If___init___0]) T.mk_If (ok_If___init__ T) (hr.mono (by omega)) (by rfl) T.m_If T.vd_If___init___3 (.cons rfl .nil) pass0 (pa_cons (pe_ix ix_tup (pv 1) pe_int (fun _ _ => rfl)) (pa_cons (pe_ix ix_tup (pv 1) pe_int (fun _ _ => rfl)) (pa_cons (pv 3) pa_nil)))))) pss_nil)
      (pss_cons (ps_if (pt_cmpR op_eq (pv 2) pe_int (nomark _)) (pss_one (ps_ret (pe_make (dvs := []) T.mk_If (ok_If___init__ T) (hr.mono (by omega)) (by rfl) T.m_If T.vd_If___init___4 .nil pass0 (pa_cons (pe_ix ix_tup (pv 1) pe_int (fun _ _ => rfl)) (pa_cons (pe_ix ix_tup (pv 1) pe_int (fun _ _ => rfl)) (pa_cons (pv 3) (pa_cons (pv 4) pa_nil))))))) pss_nil)
      (pss_one (ps_ret (pe_makeK0 T.mk_If (ok_If___init__ T) (hr.mono (by omega)) (by rfl) T.m_If T.kb_If pass0 (pk_cons (pv 4) (pk_cons (pv 3) (pk_cons (pe_ix ix_tup (pv 1) pe_int (fun _ _ => rfl)) (pk_cons (pe_ix ix_tup (pv 1) pe_int (fun _ _ => rfl)) pk_nil)))))))))))), ?_⟩
    refine ⟨_, rfl, p, t, rfl, trt, fun l pb pe H1 s1 nl hl bb be => ?_⟩
    have src1 := src.same s1
    refine ⟨l, rfl, ⟨_, SqL.of hl⟩, fun D hD => ?_⟩
    have nDa : D ≠ a := src1.fresh hD
    have nla : l ≠ a := src.fresh nl
    refine lc_it (walk_list (K := K) (a := l) (xs := [.ref pb, .ref pe])) (fun i H6 => KeepBut a H1 H6 ∧ Src H6 a ∧ ((i = 0 ∧ H6 D = some (.lst [])) ∨ (i = 1 ∧ ∃ (l1 : Addr) (bs : List Addr), H6 D = some (.lst [.ref l1]) ∧ SqT K H6 l1 (bs.map V.ref) ∧ StsT K A H6 bs t.inner) ∨
      (i = 2 ∧ ∃ (l1 l2 : Addr) (bs os : List Addr), H6 D = some (.lst [.ref l1, .ref l2]) ∧ SqT K H6 l1 (bs.map V.ref) ∧ StsT K A H6 bs t.inner ∧ SqT K H6 l2 (os.map V.ref) ∧ StsT K A H6 os t.outer))) ⟨KeepBut.of_same (same_new hD), src1.same (same_new hD), .inl ⟨rfl, upd_same⟩⟩ (fun i H6 _ h => SqL.of (h.1 _ _ nla hl)) ?_ ?_
    · rintro i x H5 H6 hi ⟨kb, s6, hc⟩ ⟨rfl, hx⟩
      refine ⟨rfl, ?_⟩
      have kp6 := src1.kp kb
      have hi2 : i = 0 ∨ i = 1 := by
        have : i < 2 := hi
        omega
      rcases hi2 with rfl | rfl
      · cases hx
        obtain ⟨pbs, sqb, trb⟩ := bb.mv kp6
        refine ⟨_, rfl, pb, rfl, ⟨_, sqb⟩, fun D2 hD2 => made_lc (A := A) (W := walk_tup (K := K) (a := pb) (xs := pbs.map V.ref)) (i6 := 6) (a := a) (pbs := pbs) (ts := t.inner) (fun i H x H' h => h) (by rw [List.length_map]) (fun H' k => (s6.kp k).sq sqb) trb s6 hD2 (fun r u H7 R mu tru s7 k => ?_) (fun _ => rfl) ?_ (fun H7 qs kb7 s7 hd7 st7 => ?_)⟩
        · have lu := lvB_mem mu
          have au := amB_mem mu
          exact ⟨_, rfl, _, rfl, a, r, u, rfl, s7, tru, by omega, by omega, by omega, List.all_eq_true.mp oki u mu, k⟩
        · have := amB_len t.inner
          omega
        · refine ⟨D2, _, rfl, .inl ⟨SqL.of hd7, fun m hm => ?_⟩⟩
          rcases hc with ⟨_, hd6⟩ | ⟨z, _⟩ | ⟨z, _⟩
          rotate_left
          · cases z
          · cases z
          have hD7 := kb7 _ _ nDa hd6
          have nmD : m ≠ D := (ne_of_none hD7 hm).symm
          have hD8 := same_new (o := .tup (qs.map V.ref)) hm _ _ hD7
          have k78 := (KpT.of_same (same_new (o := .tup (qs.map V.ref)) hm)).trans (KpT.lst hD8 (KeepBut.upd D _ (.lst ([] ++ [.ref m]))))
          refine ⟨_, hD8, by decide, ?_, (s7.same (same_new hm)).upd nDa, .inr (.inl ⟨rfl, m, qs, upd_same, SqT.of ((upd_ne nmD).trans upd_same), st7.mv k78⟩)⟩
          intro b o nb e
          rw [upd_ne (ne_of_none e hD)]
          exact same_new hm _ _ (kb7 _ _ nb (kb _ _ nb e))
      · cases hx
        obtain ⟨pbs, sqb, trb⟩ := be.mv kp6
        refine ⟨_, rfl, pe, rfl, ⟨_, sqb⟩, fun D2 hD2 => made_lc (A := A) (W := walk_tup (K := K) (a := pe) (xs := pbs.map V.ref)) (i6 := 6) (a := a) (pbs := pbs) (ts := t.outer) (fun i H x H' h => h) (by rw [List.length_map]) (fun H' k => (s6.kp k).sq sqb) trb s6 hD2 (fun r u H7 R mu tru s7 k => ?_) (fun _ => rfl) ?_ (fun H7 qs kb7 s7 hd7 st7 => ?_)⟩
        · have lu := lvB_mem mu
          have au := amB_mem mu
          exact ⟨_, rfl, _, rfl, a, r, u, rfl, s7, tru, by omega, by omega, by omega, List.all_eq_true.mp oko u mu, k⟩
        · have := amB_len t.outer
          omega
        · refine ⟨D2, _, rfl, .inl ⟨SqL.of hd7, fun m hm => ?_⟩⟩
          rcases hc with ⟨z, _⟩ | ⟨_, l1, bs, hd6, sq1, st1⟩ | ⟨z, _⟩
          · cases z
          rotate_left
          · cases z
          have hD7 := kb7 _ _ nDa hd6
          have nmD : m ≠ D := (ne_of_none hD7 hm).symm
          have hD8 := same_new (o := .tup (qs.map V.ref)) hm _ _ hD7
          have k78 := (KpT.of_same (same_new (o := .tup (qs.map V.ref)) hm)).trans (KpT.lst hD8 (KeepBut.upd D _ (.lst ([.ref l1] ++ [.ref m]))))
          refine ⟨_, hD8, (by show 1 < sizeLine; decide), ?_, (s7.same (same_new hm)).upd nDa, .inr (.inr ⟨rfl, l1, m, bs, qs, upd_same, k78.sq ((s6.kp kb7).sq sq1), (st1.mv (s6.kp kb7)).mv k78, SqT.of ((upd_ne nmD).trans upd_same), st7.mv k78⟩)⟩
          intro b o nb e
          rw [upd_ne (ne_of_none e hD)]
          exact same_new hm _ _ (kb7 _ _ nb (kb _ _ nb e))
    · rintro H6 ⟨kb, s6, hc⟩
      rcases hc with ⟨z, _⟩ | ⟨z, _⟩ | ⟨_, l1, l2, bs, os, hd6, sq1, st1, sq2, st2⟩
      · cases z
      · cases z
      have kp6 := (KpT.of_same s1).trans (src1.kp kb)
      have kbH : KeepBut a H H6 := (KeepBut.of_same s1).trans kb
      refine ⟨D, _, rfl, SqL.of hd6, rfl, _, _, rfl, _, _, rfl, rfl, ?_⟩
      have sn : ∀ {x dx : Addr} (C : Addr), H6 x = none → H6 dx = none → Same H6 (upd (upd H6 dx (.own x)) x (.ins C dx [])) := fun C nx ndx b o e => (upd_ne (ne_of_none e nx)).trans ((upd_ne (ne_of_none e ndx)).trans e)
      have trt6 := trt.mv kp6
      rcases trt6.kind hk with ⟨l', r', b, e, pb', pe', rfl, hq, ol, orr⟩ | ⟨b, pb', rfl, hq⟩ | ⟨b, pb', rfl, hq⟩
      · refine ⟨_, rfl, p, _, _, _, rfl, rfl, hq, atI_nat (j := 0) rfl, rfl, _, rfl, ?_⟩
        refine ⟨_, rfl, p, _, _, _, rfl, rfl, hq, atI_nat (j := 0) rfl, rfl, _, rfl, ?_⟩
        have a1 : amT (.cond l' r' b e) = 1 + (amB b + amB e) := by rw [amT]
        have a2 : lvT (.cond l' r' b e) = 1 + max (lvB b) (lvB e) := by rw [lvT]
        refine ⟨_, rfl, Nat.zero_le _, fun pz nz => ⟨l2, pz, _, rfl, rfl, (KpT.of_same (same_new nz)).sq sq2, SqT.of upd_same, ?_⟩⟩
        have sz := same_new (o := .tup []) nz
        have s7 := s6.same sz
        have hq7 := (KpT.of_same sz).sq hq
        have sq17 := (KpT.of_same sz).sq sq1
        have sq27 := (KpT.of_same sz).sq sq2
        have st17 := st1.mv (KpT.of_same sz)
        have st27 := st2.mv (KpT.of_same sz)
        have kb7 := kbH.trans (KeepBut.of_same (a := a) sz)
        have sn7 : ∀ {x dx : Addr} (C : Addr), (upd H6 pz (.tup [])) x = none → (upd H6 pz (.tup [])) dx = none → Same (upd H6 pz (.tup [])) (upd (upd (upd H6 pz (.tup [])) dx (.own x)) x (.ins C dx [])) := fun C nx ndx b o e => (upd_ne (ne_of_none e nx)).trans ((upd_ne (ne_of_none e ndx)).trans e)
        refine ⟨_, rfl, ?_⟩
        refine ite2 (fun he => ?_) (fun he => ?_)
        · have he : decide ((os.map V.ref).length = 0) = true := he
          have he := of_decide_eq_true he
          rw [List.length_map] at he
          have oe := List.length_eq_zero_iff.mp he
          have ee : e = [] := by
            have := st2.len
            rw [he] at this
            exact List.length_eq_zero_iff.mp this.symm
          refine ⟨_, rfl, rfl, _, rfl, ?_⟩
          rcases hd with rfl | rfl
          · subst ee
            refine ⟨_, rfl, p, _, _, _, rfl, rfl, hq7, atI_nat (j := 1) rfl, _, rfl, p, _, _, _, rfl, rfl, hq7, atI_nat (j := 2) rfl, _, rfl, fun x dx nx ndx nex => ⟨x, dx, l1, A.x_If___init___0, l', r', bs, [], b, [], rfl, upd_same, ol, orr, (KpT.of_same (sn7 A.c_If nx ndx)).sq sq17, st17.mv (KpT.of_same (sn7 A.c_If nx ndx)), T.e_If___init___0 _, .nil, ?_, ?_, fun H' st kb => ⟨rfl, ?_⟩⟩⟩
            · show amB _ + amB _ ≤ 39
              first | omega | (rw [amB_nil] at a1 ⊢; omega)
            · show max (lvB _) (lvB _) ≤ 4
              first | omega | (rw [lvB_nil] at a2 ⊢; omega)
            have nxa : x ≠ a := s7.fresh nx
            obtain ⟨f1, f2⟩ := made_fin s7 kb7 nx ndx nex kb nxa
            exact q x H' st f1 f2
          · refine ⟨_, rfl, rfl, _, rfl, ?_⟩
            refine ⟨_, rfl, _, rfl, _, rfl, p, _, _, _, rfl, rfl, hq7, atI_nat (j := 2) rfl, _, rfl, p, _, _, _, rfl, rfl, hq7, atI_nat (j := 1) rfl, rfl, rfl, fun x dx nx ndx nex => ⟨x, dx, l1, l2, l', r', bs, os, b, e, rfl, upd_same, ol, orr, (KpT.of_same (sn7 A.c_If nx ndx)).sq sq17, st17.mv (KpT.of_same (sn7 A.c_If nx ndx)), (KpT.of_same (sn7 A.c_If nx ndx)).sq sq27, st27.mv (KpT.of_same (sn7 A.c_If nx ndx)), ?_, ?_, fun H' st kb => ⟨rfl, ?_⟩⟩⟩
            · show amB _ + amB _ ≤ 39
              first | omega | (rw [amB_nil] at a1 ⊢; omega)
            · show max (lvB _) (lvB _) ≤ 4
              first | omega | (rw [lvB_nil] at a2 ⊢; omega)
            have nxa : x ≠ a := s7.fresh nx
            obtain ⟨f1, f2⟩ := made_fin s7 kb7 nx ndx nex kb nxa
            exact q x H' st f1 f2
        · refine ⟨_, rfl, rfl, _, rfl, ?_⟩
          rcases hd with rfl | rfl
          · refine ⟨_, rfl, p, _, _, _, rfl, rfl, hq7, atI_nat (j := 1) rfl, _, rfl, p, _, _, _, rfl, rfl, hq7, atI_nat (j := 2) rfl, _, rfl, _, rfl, fun x dx nx ndx nex => ⟨x, dx, l1, l2, l', r', bs, os, b, e, rfl, upd_same, ol, orr, (KpT.of_same (sn7 A.c_If nx ndx)).sq sq17, st17.mv (KpT.of_same (sn7 A.c_If nx ndx)), (KpT.of_same (sn7 A.c_If nx ndx)).sq sq27, st27.mv (KpT.of_same (sn7 A.c_If nx ndx)), ?_, ?_, fun H' st kb => ⟨rfl, ?_⟩⟩⟩
            · show amB _ + amB _ ≤ 39
              first | omega | (rw [amB_nil] at a1 ⊢; omega)
            · show max (lvB _) (lvB _) ≤ 4
              first | omega | (rw [lvB_nil] at a2 ⊢; omega)
            have nxa : x ≠ a := s7.fresh nx
            obtain ⟨f1, f2⟩ := made_fin s7 kb7 nx ndx nex kb nxa
            exact q x H' st f1 f2
          · refine ⟨_, rfl, _, rfl, _, rfl, p, _, _, _, rfl, rfl, hq7, atI_nat (j := 2) rfl, _, rfl, p, _, _, _, rfl, rfl, hq7, atI_nat (j := 1) rfl, rfl, rfl, fun x dx nx ndx nex => ⟨x, dx, l1, l2, l', r', bs, os, b, e, rfl, upd_same, ol, orr, (KpT.of_same (sn7 A.c_If nx ndx)).sq sq17, st17.mv (KpT.of_same (sn7 A.c_If nx ndx)), (KpT.of_same (sn7 A.c_If nx ndx)).sq sq27, st27.mv (KpT.of_same (sn7 A.c_If nx ndx)), ?_, ?_, fun H' st kb => ⟨rfl, ?_⟩⟩⟩
            · show amB _ + amB _ ≤ 39
              first | omega | (rw [amB_nil] at a1 ⊢; omega)
            · show max (lvB _) (lvB _) ≤ 4
              first | omega | (rw [lvB_nil] at a2 ⊢; omega)
            have nxa : x ≠ a := s7.fresh nx
            obtain ⟨f1, f2⟩ := made_fin s7 kb7 nx ndx nex kb nxa
            exact q x H' st f1 f2
      · refine ⟨_, rfl, p, _, _, _, rfl, rfl, hq, atI_nat (j := 0) rfl, rfl, _, rfl, ?_⟩
        refine ⟨_, rfl, rfl, _, rfl, ?_⟩
        have a1 : amT (.loop b) = 1 + (amB b + 0) := by rw [amT]
        have a2 : lvT (.loop b) = 1 + max (lvB b) 0 := by rw [lvT]
        rcases hd with rfl | rfl
        · refine ⟨_, rfl, fun x dx nx ndx nex => ⟨x, dx, l1, bs, b, rfl, upd_same, (KpT.of_same (sn A.c_Loop nx ndx)).sq sq1, st1.mv (KpT.of_same (sn A.c_Loop nx ndx)), fun _ _ => trivial, by omega, by omega, fun H' st kb => ⟨rfl, ?_⟩⟩⟩
          have nxa : x ≠ a := s6.fresh nx
          obtain ⟨f1, f2⟩ := made_fin s6 kbH nx ndx nex kb nxa
          exact q x H' st f1 f2
        · refine ⟨_, rfl, rfl, rfl, fun x dx nx ndx nex => ⟨x, dx, l1, bs, b, rfl, upd_same, (KpT.of_same (sn A.c_Loop nx ndx)).sq sq1, st1.mv (KpT.of_same (sn A.c_Loop nx ndx)), fun _ _ => trivial, by omega, by omega, fun H' st kb => ⟨rfl, ?_⟩⟩⟩
          have nxa : x ≠ a := s6.fresh nx
          obtain ⟨f1, f2⟩ := made_fin s6 kbH nx ndx nex kb nxa
          exact q x H' st f1 f2
      · refine ⟨_, rfl, p, _, _, _, rfl, rfl, hq, atI_nat (j := 0) rfl, rfl, _, rfl, ?_⟩
        refine ⟨_, rfl, p, _, _, _, rfl, rfl, hq, atI_nat (j := 0) rfl, rfl, _, rfl, ?_⟩
        refine ⟨_, rfl, rfl, _, rfl, ?_⟩
        have a1 : amT (.joined b) = 1 + (amB b + 0) := by rw [amT]
        have a2 : lvT (.joined b) = 1 + max (lvB b) 0 := by rw [lvT]
        have hg : goB b = true := by
          rw [okT, Bool.and_eq_true] at hok
          exact hok.1
        rw [goB_all] at hg
        rcases hd with rfl | rfl
        · refine ⟨_, rfl, fun x dx nx ndx nex => ⟨x, dx, l1, bs, b, rfl, upd_same, (KpT.of_same (sn A.c_Joined nx ndx)).sq sq1, st1.mv (KpT.of_same (sn A.c_Joined nx ndx)), fun u hu => List.all_eq_true.mp hg u hu, by omega, by omega, fun H' st kb => ⟨rfl, ?_⟩⟩⟩
          have nxa : x ≠ a := s6.fresh nx
          obtain ⟨f1, f2⟩ := made_fin s6 kbH nx ndx nex kb nxa
          exact q x H' st f1 f2
        · refine ⟨_, rfl, rfl, rfl, fun x dx nx ndx nex => ⟨x, dx, l1, bs, b, rfl, upd_same, (KpT.of_same (sn A.c_Joined nx ndx)).sq sq1, st1.mv (KpT.of_same (sn A.c_Joined nx ndx)), fun u hu => List.all_eq_true.mp hg u hu, by omega, by omega, fun H' st kb => ⟨rfl, ?_⟩⟩⟩
          have nxa : x ≠ a := s6.fresh nx
          obtain ⟨f1, f2⟩ := made_fin s6 kbH nx ndx nex kb nxa
          exact q x H' st f1 f2
theorem hold_vac : FnOk P w K mg base CX0 (2 * 0 + 11) A.a_law_holding A.d_law_holding ["_law_source_here", "_law_tree", "_law_way"] (spHolding K A 0) := FnOk.vac fun vs H Q E h => by
  obtain ⟨a, p, t, d, _, _, _, _, _, h, _⟩ := h
  have := lvT_pos t
  omega
theorem made_n (T : Txt K mg A) : ∀ n : Nat, FnOk P w K mg base CX0 (2 * n + 12) A.a_law_made A.d_law_made ["_law_source_here", "_law_tree"] (spMade K A n)
  | 0 => made_step T 0 hold_vac
  | n + 1 => made_step T (n + 1) (holding_step T n (made_n T n))
theorem ok_law_made (T : Txt K mg A) : FnOk P w K mg base CX0 22 A.a_law_made A.d_law_made ["_law_source_here", "_law_tree"] (spMade K A 5) := made_n T 5
end
end K04
set_option Elab.async false
set_option linter.all false
set_option maxRecDepth 100000
set_option maxHeartbeats 4000000
namespace K04
open PySem PySem.Spec PyProof.Rows L2 Mo
/-! ### paces -/
def pcK (k : Nat) : Bool := decide (k ≤ 3) || k == 9
mutual
def pcT : Tr → Nat
  | .one k _ _ => if pcK k = true then 1 else 0
  | .cond _ _ b e => pcB b + pcB e
  | .loop b => pcB b
  | .joined _ => 1
def pcB : List Tr → Nat
  | [] => 0
  | t :: ts => pcT t + pcB ts
end
theorem pcB_nil : pcB [] = 0 := by rw [pcB]
theorem pcB_cons (t : Tr) (ts : List Tr) : pcB (t :: ts) = pcT t + pcB ts := by rw [pcB]
theorem pcB_app : ∀ a b : List Tr, pcB (a ++ b) = pcB a + pcB b
  | [], b => by rw [pcB_nil, Nat.zero_add]; rfl
  | t :: a, b => by rw [List.cons_append, pcB_cons, pcB_cons, pcB_app a b, Nat.add_assoc]
theorem pcT_eq (t : Tr) : pcT t = if pcK t.k = true then 1 else pcB t.inner + pcB t.outer := by
  cases t with
  | one k xs l =>
    rw [pcT]
    show _ = if pcK k = true then 1 else pcB [] + pcB []
    rw [pcB_nil]
  | cond l r b e =>
    rw [pcT]
    exact (if_neg (by show ¬ pcK 7 = true; decide)).symm
  | loop b =>
    rw [pcT]
    refine Eq.symm ((if_neg (by show ¬ pcK 8 = true; decide)).trans ?_)
    show pcB b + pcB [] = pcB b
    rw [pcB_nil]
    rfl
  | joined b =>
    rw [pcT]
    exact (if_pos (by show pcK 9 = true; decide)).symm
theorem in_pc : ∀ k < 10, ∀ z, kwords[k]? = some z → inV (.str z) [.str "look", .str "put", .str "swap", .str "try", .str "joined"] = pcK k := by
  intro k hk z hz
  have h : (List.range 10).all (fun k => (kwords[k]?.map fun z => inV (.str z) [.str "look", .str "put", .str "swap", .str "try", .str "joined"] == pcK k).getD true) = true := by decide +kernel
  have := List.all_eq_true.mp h k (List.mem_range.mpr hk)
  rw [hz] at this
  exact beq_iff_eq.mp this
section
variable {w : World} {K : PySem.W.Frag} {mg : Str → Option Value} {base : Heap} {A : Ads}
theorem TrAt.hd {H : Hp} {p : Addr} {t : Tr} (h : TrAt K H p t) : ∃ z xs, SqT K H p (.str z :: xs) ∧ kwords[t.k]? = some z ∧ t.k < 10 := by
  cases h with
  | one h o => cases o <;> exact ⟨_, _, SqT.of h, rfl, by show _ < 10; simp [Tr.k]⟩
  | cond h hl hr hb he tb te => exact ⟨_, _, SqT.of h, rfl, by show 7 < 10; decide⟩
  | loop h hb tb => exact ⟨_, _, SqT.of h, rfl, by show 8 < 10; decide⟩
  | joined h hb tb => exact ⟨_, _, SqT.of h, rfl, by show 9 < 10; decide⟩
def spPaces (K : PySem.W.Frag) (n : Nat) : Sp := fun vs H Q _ => ∃ (a : Addr) (ps : List Addr) (ts : List Tr), vs = [.ref a] ∧ Sq K H a (ps.map V.ref) ∧ TrsAt K H ps ts ∧ lvB ts < n ∧ amB ts ≤ 1000 ∧ ∀ H', Same H H' → Q (.int (pcB ts : Nat)) H'
theorem paces_step (T : Txt K mg A) (n : Nat) (ih : FnOk P w K mg base CX0 (n + 2) A.a_law_paces A.d_law_paces ["_law_trees"] (spPaces K n)) :
    FnOk P w K mg base CX0 (n + 3) A.a_law_paces A.d_law_paces ["_law_trees"] (spPaces K (n + 1)) := by
  have nd := sc_law_paces.nd
  refine T.f_law_paces.ok sc_law_paces (fun vs H Q E h => ?_) (fun cdv A' outer s H vs Q E hr h => ?_)
  · obtain ⟨a, ps, ts, rfl, _⟩ := h
    rfl
  · obtain ⟨a, ps, ts, rfl, hs, tr, ln, am, q⟩ := h
    have ltr := tr.len
    refine ⟨_, (pss_cons (ps_set (i := 1) nd rfl (Or.inl rfl) pe_int)
      (pss_cons (ps_for PassesOwn.never rfl (pi_seq (pv 0)) (pg_name (i := 2) nd rfl (Or.inl rfl)) (pss_one (ps_if (pt_cmpR op_in_seq (pe_ix ix_tup (pv 2) pe_int (fun _ _ => rfl)) (pe_lst (pa_cons pe_str (pa_cons pe_str (pa_cons pe_str (pa_cons pe_str (pa_cons pe_str pa_nil)))))) (by rfl)) (pss_one (ps_set (i := 1) nd rfl (Or.inl rfl) (pe_op op_add (pv 1) pe_int))) (pss_one (ps_set (i := 1) nd rfl (Or.inl rfl) (pe_op op_add (pv 1) (pe_callB (cr_sum rfl) (by rfl) T.b_sum (by decide +kernel) (pa_cons (pe_lc (own := [("_law_side", 3)]) (g := gName 3) (tt := tYes) rfl nd (pi_list (pe_call (ok_law_bodies T) (hr.mono (by omega)) (by rfl) T.m_law_bodies T.k_law_bodies T.v_law_bodies .nil pass0 (pa_cons (pv 2) pa_nil))) (blkOk_by (N := nm_law_paces) (sc := defScope st_law_paces) (by decide +kernel)) (fun _ _ _ _ _ => (pg_name (i := 3) nd rfl (Or.inl rfl))) (fun _ _ _ _ _ => pts_nil) (fun _ _ _ _ _ => (pe_call ih (hr.mono (by omega)) (by rfl) T.m_law_paces T.k_law_paces T.v_law_paces .nil pass0 (pa_cons (pv 3) pa_nil)))) pa_nil))))))))
      (pss_one (ps_ret (pv 1))))), ?_⟩
    refine ⟨_, rfl, a, rfl, for_seq hs (fun i σ H2 => Same H H2 ∧ ∃ v2 v3 : Option V, σ = [some (.ref a), some (.int (pcB (ts.take i) : Nat)), v2, v3]) ⟨Same.refl _, none, none, ?_⟩ (fun i σ H2 h => h.1) ?_ ?_⟩
    · rw [List.take_zero, pcB_nil]
      rfl
    · rintro i y σ H2 hy ⟨s2, v2, v3, rfl⟩
      rw [List.getElem?_map] at hy
      obtain ⟨p, hp, rfl⟩ := Option.map_eq_some_iff.mp hy
      obtain ⟨t, ht, trp⟩ := tr.get hp
      have lt : lvT t ≤ lvB ts := lvB_mem (List.mem_of_getElem? ht)
      have at_ : amT t ≤ amB ts := amB_mem (List.mem_of_getElem? ht)
      have lte := lvT_eq t
      have ate := amT_eq t
      have tk : pcB (ts.take (i + 1)) = pcB (ts.take i) + pcT t := by
        rw [List.take_add_one, ht, pcB_app]
        show _ + pcB [t] = _
        rw [pcB_cons, pcB_nil, Nat.add_zero]
      have trp2 := trp.mv (KpT.of_same s2)
      obtain ⟨z, xs, hq, hz, k10⟩ := trp2.hd
      have iv := in_pc t.k k10 z hz
      have pe := pcT_eq t
      refine ⟨_, rfl, p, _, _, _, rfl, rfl, hq, atI_nat (j := 0) rfl, (by show 5 ≤ sizeLine; decide), fun q1 n1 => ⟨q1, _, rfl, Or.inl (SqL.of upd_same), rfl, rfl, _, rfl, ?_⟩⟩
      have s3 := s2.trans (same_new (o := .lst [.str "look", .str "put", .str "swap", .str "try", .str "joined"]) n1)
      refine ite2 (fun hin => ?_) (fun hin => ?_)
      · have hin : inV (.str z) [.str "look", .str "put", .str "swap", .str "try", .str "joined"] = true := hin
        rw [iv] at hin
        rw [if_pos hin] at pe
        refine ⟨_, rfl, _, _, rfl, rfl, s3, some (.ref p), v3, ?_⟩
        rw [tk, pe]
        rfl
      · have hin : ¬ inV (.str z) [.str "look", .str "put", .str "swap", .str "try", .str "joined"] = true := hin
        rw [iv] at hin
        rw [if_neg hin] at pe
        refine ⟨_, rfl, _, rfl, p, t, rfl, trp.mv (KpT.of_same s3), fun l pb pe' H4 s4 nl hl bb be => ?_⟩
        obtain ⟨pbs, sqb, trb⟩ := bb
        obtain ⟨pes, sqe, tre⟩ := be
        refine ⟨l, rfl, ⟨_, SqL.of hl⟩, fun D2 hD2 => two_lc (u := pcB t.inner) (v := pcB t.outer) (i3 := 3) hl hD2 (fun H5 R s5 k => ⟨_, rfl, pb, pbs, t.inner, rfl, .inr ((KpT.of_same s5).sq sqb), trb.mv (KpT.of_same s5), by omega, by omega, k⟩)
          (fun H5 R s5 k => ⟨_, rfl, pe', pes, t.outer, rfl, .inr ((KpT.of_same s5).sq sqe), tre.mv (KpT.of_same s5), by omega, by omega, k⟩) (fun _ => rfl) fun H5 s5 hd5 => ?_⟩
        refine ⟨D2, _, rfl, SqL.of hd5, _, _, rfl, rfl, s3.trans (s4.trans s5), some (.ref p), v3, ?_⟩
        rw [tk, pe]
        have e : ((pcB (ts.take i) : Nat) : Int) + [((pcB t.inner : Nat) : Int), ((pcB t.outer : Nat) : Int)].sum = ((pcB (ts.take i) + (pcB t.inner + pcB t.outer) : Nat) : Int) := by
          simp only [List.sum_cons, List.sum_nil]
          omega
        rw [← e]
        rfl
    · rintro σ H2 ⟨s2, v2, v3, rfl⟩
      rw [List.take_of_length_le (by rw [List.length_map, tr.len]; exact Nat.le_refl _)]
      exact ⟨_, rfl, q H2 s2⟩
theorem ok_law_paces (T : Txt K mg A) : ∀ n : Nat, FnOk P w K mg base CX0 (n + 2) A.a_law_paces A.d_law_paces ["_law_trees"] (spPaces K n)
  | 0 => FnOk.vac fun vs H Q E h => by
    obtain ⟨a, ps, ts, _, _, _, h, _⟩ := h
    omega
  | n + 1 => paces_step T n (ok_law_paces T n)
/-! ### operands and lines -/
def spOperand : Sp := fun vs H Q _ => ∃ (a b : Addr) (zs : List Str), vs = [.ref a, .ref b] ∧ Src H a ∧ H b = some (.lst (zs.map V.str)) ∧ zs.length ≤ 10 ∧ (∀ z ∈ zs, NameT z) ∧ ∀ (z : Str) (H' : Hp), OperT z → Src H' a → KeepBut a H H' → Q (.str z) H'
theorem oper_fixed : ∀ z ∈ (["nothing", "yes"] : List Str), OperT z := by
  intro z hz
  rcases List.mem_cons.mp hz with rfl | hz
  · exact ⟨by decide +kernel, aln_by (by decide +kernel), by decide⟩
  · rw [List.mem_singleton.mp hz]
    exact ⟨by decide +kernel, aln_by (by decide +kernel), by decide⟩
theorem ok_law_operand (T : Txt K mg A) : FnOk P w K mg base CX0 2 A.a_law_operand A.d_law_operand ["_law_source_here", "_law_names"] spOperand := by
  have nd := sc_law_operand.nd
  refine T.f_law_operand.ok sc_law_operand (fun vs H Q E h => ?_) (fun cdv A' outer s H vs Q E hr h => ?_)
  · obtain ⟨a, b, zs, rfl, _⟩ := h
    rfl
  · obtain ⟨a, b, zs, rfl, src, hb, lz, nz, q⟩ := h
    refine ⟨_, (pss_cons (ps_set (i := 2) nd rfl (Or.inl rfl) (pe_op op_cat (pv 1) (pe_lst (pa_cons pe_str (pa_cons pe_str pa_nil)))))
      (pss_one (ps_ret (pe_ix ix_list (pv 2) (pe_call (ok_law_take T) (hr.mono (by decide)) (by rfl) T.m_law_take T.k_law_take T.v_law_take .nil pass0 (pa_cons (pv 0) (pa_cons (pe_callB call_len_seq (by rfl) T.b_len (by decide +kernel) (pa_cons (pv 2) pa_nil)) pa_nil))) (fun _ _ => rfl))))), ?_⟩
    refine ⟨_, rfl, (by show 2 ≤ sizeLine; decide), fun p1 n1 => ?_⟩
    have s1 := same_new (o := .lst [.str "nothing", .str "yes"]) n1
    refine ⟨b, p1, _, _, rfl, rfl, s1 _ _ hb, upd_same, ?_, fun p2 n2 => ?_⟩
    · rw [List.length_map]
      exact len5000 (by show zs.length + 2 ≤ 5000; omega)
    have s2 := s1.trans (same_new (o := .lst (zs.map V.str ++ [.str "nothing", .str "yes"])) n2)
    have src2 := src.same s2
    have n2a : p2 ≠ a := (src.same s1).fresh n2
    have len2 : (zs.map V.str ++ [V.str "nothing", V.str "yes"]).length = zs.length + 2 := by simp
    refine ⟨_, rfl, _, rfl, _, rfl, p2, _, rfl, Or.inl (SqL.of upd_same), a, _, rfl, src2, ?_, ?_, fun d H3 d0 d1 src3 kb3 => ?_⟩
    · rw [len2]
      omega
    · rw [len2]
      omega
    obtain ⟨y, hy, ym⟩ := at_in (l := zs.map V.str ++ [V.str "nothing", V.str "yes"]) d0 d1
    obtain ⟨z, rfl, oz⟩ : ∃ z, y = .str z ∧ OperT z := by
      rcases List.mem_append.mp ym with ym | ym
      · obtain ⟨z, hz, rfl⟩ := List.mem_map.mp ym
        exact ⟨z, rfl, (nz z hz).oper⟩
      · obtain ⟨z, hz, rfl⟩ := List.mem_map.mp (show y ∈ (["nothing", "yes"] : List Str).map V.str from ym)
        exact ⟨z, rfl, oper_fixed z hz⟩
    refine ⟨p2, _, d, _, rfl, rfl, SqL.of (kb3 _ _ n2a upd_same), hy, ?_⟩
    exact q z H3 oz src3 ((KeepBut.of_same s2).trans kb3)
/-- the names, the goals, the rooms -/
def WorldAt (H : Hp) (wl : Addr) : Prop := ∃ (nm gl rm : Addr) (zs gs rs : List Str), H wl = some (.lst [.ref nm, .ref gl, .ref rm]) ∧ H nm = some (.lst (zs.map V.str)) ∧ H gl = some (.lst (gs.map V.str)) ∧ H rm = some (.lst (rs.map V.str)) ∧ 1 ≤ zs.length ∧ zs.length ≤ 10 ∧ 1 ≤ gs.length ∧ gs.length ≤ 10 ∧ 1 ≤ rs.length ∧ rs.length ≤ 10 ∧ (∀ z ∈ zs, NameT z) ∧ (∀ z ∈ gs, NameT z) ∧ (∀ z ∈ rs, NameT z)
theorem ne_src {H : Hp} {a b : Addr} {zs : List Str} (src : Src H a) (h : H b = some (.lst (zs.map V.str))) (n : 1 ≤ zs.length) : b ≠ a := by
  obtain ⟨x, y, c, e, _⟩ := src
  refine ne_of h e ?_
  cases zs with
  | nil => exact absurd n (by decide)
  | cons z l =>
    intro q
    injection q with q
    injection q with q
    cases q
theorem WorldAt.mv {H H' : Hp} {a wl : Addr} (h : WorldAt H wl) (src : Src H a) (k : KeepBut a H H') : WorldAt H' wl := by
  obtain ⟨nm, gl, rm, zs, gs, rs, h1, h2, h3, h4, l1, l2, l3, l4, l5, l6, r⟩ := h
  have nw : wl ≠ a := by
    obtain ⟨x, y, c, e, _⟩ := src
    exact ne_of h1 e (by intro z; injection z with z; injection z with z; cases z)
  exact ⟨nm, gl, rm, zs, gs, rs, k _ _ nw h1, k _ _ (ne_src src h2 l1) h2, k _ _ (ne_src src h3 l3) h3, k _ _ (ne_src src h4 l5) h4, l1, l2, l3, l4, l5, l6, r⟩
def spLine (K : PySem.W.Frag) : Sp := fun vs H Q _ => ∃ (a wl : Addr), vs = [.ref a, .ref wl] ∧ Src H a ∧ WorldAt H wl ∧ ∀ (p : Addr) (k : Nat) (xs : List Str) (line : Str) (H' : Hp), TrAt K H' p (.one k xs line) → k ≤ 4 → Src H' a → KeepBut a H H' → Q (.ref p) H'
theorem ok_law_line (T : Txt K mg A) : FnOk P w K mg base CX0 3 A.a_law_line A.d_law_line ["_law_source_here", "_law_world"] (spLine K) := by
  have nd := sc_law_line.nd
  refine T.f_law_line.ok sc_law_line (fun vs H Q E h => ?_) (fun cdv A' outer s H vs Q E hr h => ?_)
  · obtain ⟨a, wl, rfl, _⟩ := h
    rfl
  · obtain ⟨a, wl, rfl, src, ⟨nm, gl, rm, zs, gs, rs, h1, h2, h3, h4, l1, l2, l3, l4, l5, l6, nz, ng, nr⟩, q⟩ := h
    have n2 := ne_src src h2 l1
    have n3 := ne_src src h3 l3
    have n4 := ne_src src h4 l5
    refine ⟨_, (pss_cons (ps_asg (pv 1) (pg_unl rfl (pgs_cons (pg_name (i := 2) nd rfl (Or.inl rfl)) (pgs_cons (pg_name (i := 3) nd rfl (Or.inl rfl)) (pgs_cons (pg_name (i := 4) nd rfl (Or.inl rfl)) pgs_nil)))))
      (pss_cons (ps_par (i := 5) (j := 6) rfl nd rfl rfl (by decide) rfl rfl (pa_cons (pe_ix ix_list (pv 4) (pe_call (ok_law_take T) (hr.mono (by decide)) (by rfl) T.m_law_take T.k_law_take T.v_law_take .nil pass0 (pa_cons (pv 0) (pa_cons (pe_callB call_len_seq (by rfl) T.b_len (by decide +kernel) (pa_cons (pv 4) pa_nil)) pa_nil))) (fun _ _ => rfl)) (pa_cons (pe_ix ix_list (pv 3) (pe_call (ok_law_take T) (hr.mono (by decide)) (by rfl) T.m_law_take T.k_law_take T.v_law_take .nil pass0 (pa_cons (pv 0) (pa_cons (pe_callB call_len_seq (by rfl) T.b_len (by decide +kernel) (pa_cons (pv 3) pa_nil)) pa_nil))) (fun _ _ => rfl)) pa_nil)) (by rfl))
      (pss_cons (ps_par (i := 7) (j := 8) rfl nd rfl rfl (by decide) rfl rfl (pa_cons (pe_call (ok_law_operand T) (hr.mono (by decide)) (by rfl) T.m_law_operand T.k_law_operand T.v_law_operand .nil pass0 (pa_cons (pv 0) (pa_cons (pv 2) pa_nil))) (pa_cons (pe_call (ok_law_operand T) (hr.mono (by decide)) (by rfl) T.m_law_operand T.k_law_operand T.v_law_operand .nil pass0 (pa_cons (pv 0) (pa_cons (pv 2) pa_nil))) pa_nil)) (by rfl))
      (pss_cons (ps_set (i := 9) nd rfl (Or.inl rfl) (pe_call (ok_law_take T) (hr.mono (by decide)) (by rfl) T.m_law_take T.k_law_take T.v_law_take .nil pass0 (pa_cons (pv 0) (pa_cons pe_int pa_nil))))
      (pss_cons (ps_if (pt_cmpR op_eq (pv 9) pe_int (nomark _)) (pss_one (ps_ret (pe_tup (pa_cons pe_str (pa_cons (pv 5) (pa_cons (pv 6) pa_nil)))))) pss_nil)
      (pss_cons (ps_if (pt_cmpR op_eq (pv 9) pe_int (nomark _)) (pss_one (ps_ret (pe_tup (pa_cons pe_str (pa_cons (pv 5) (pa_cons (pv 7) pa_nil)))))) pss_nil)
      (pss_cons (ps_if (pt_cmpR op_eq (pv 9) pe_int (nomark _)) (pss_one (ps_ret (pe_tup (pa_cons pe_str (pa_cons (pv 5) (pa_cons (pv 7) (pa_cons (pv 6) pa_nil))))))) pss_nil)
      (pss_one (ps_ret (pe_ifExp (pt_cmpR op_eq (pv 9) pe_int (nomark _)) (pe_tup (pa_cons pe_str (pa_cons (pv 5) (pa_cons (pv 7) (pa_cons (pv 8) (pa_cons (pv 6) pa_nil)))))) (pe_tup (pa_cons pe_str (pa_cons (pv 6) (pa_cons (pv 7) pa_nil)))))))))))))), ?_⟩
    refine ⟨_, rfl, wl, _, rfl, SqL.of h1, rfl, _, _, rfl, _, _, rfl, _, _, rfl, rfl, ?_⟩
    refine ⟨_, rfl, _, rfl, _, rfl, rm, _, rfl, Or.inl (SqL.of h4), a, _, rfl, src, by rw [List.length_map]; omega, by rw [List.length_map]; omega, fun d H3 d0 d1 src3 kb3 => ?_⟩
    obtain ⟨y, hy, ym⟩ := at_in (l := rs.map V.str) d0 d1
    obtain ⟨room, hroom, rfl⟩ := List.mem_map.mp ym
    have nroom := nr room hroom
    refine ⟨rm, _, d, _, rfl, rfl, SqL.of (kb3 _ _ n4 h4), hy, ?_⟩
    refine ⟨_, rfl, _, rfl, _, rfl, gl, _, rfl, Or.inl (SqL.of (kb3 _ _ n3 h3)), a, _, rfl, src3, by rw [List.length_map]; omega, by rw [List.length_map]; omega, fun d2 H4 d20 d21 src4 kb4 => ?_⟩
    obtain ⟨y2, hy2, ym2⟩ := at_in (l := gs.map V.str) d20 d21
    obtain ⟨goal, hgoal, rfl⟩ := List.mem_map.mp ym2
    have ngoal := ng goal hgoal
    have kb04 := kb3.trans kb4
    refine ⟨gl, _, d2, _, rfl, rfl, SqL.of (kb04 _ _ n3 h3), hy2, _, _, rfl, ?_⟩
    refine ⟨_, rfl, _, rfl, a, nm, zs, rfl, src4, kb04 _ _ n2 h2, l2, nz, fun o1 H5 ho1 src5 kb5 => ?_⟩
    have kb05 := kb04.trans kb5
    refine ⟨_, rfl, _, rfl, a, nm, zs, rfl, src5, kb05 _ _ n2 h2, l2, nz, fun o2 H6 ho2 src6 kb6 => ⟨_, _, rfl, ?_⟩⟩
    have kb06 := kb05.trans kb6
    refine ⟨_, rfl, a, _, rfl, src6, by decide, by decide, fun way H7 w0 w5 src7 kb7 => ?_⟩
    have kb07 := kb06.trans kb7
    have fin : ∀ (k : Nat) (xs : List Str) (line : Str), One k xs line → k ≤ 4 → ∀ p, H7 p = none → Q (.ref p) (upd H7 p (.tup (xs.map V.str))) := by
      intro k xs line o hk p hp
      have s8 := same_new (o := .tup (xs.map V.str)) hp
      exact q p k xs line _ (.one upd_same o) hk (src7.same s8) (kb07.trans (KeepBut.of_same s8))
    have w' : way = 0 ∨ way = 1 ∨ way = 2 ∨ way = 3 ∨ way = 4 := by omega
    rcases w' with rfl | rfl | rfl | rfl | rfl
    · refine ⟨_, rfl, rfl, _, rfl, ?_⟩
      exact ⟨_, rfl, _, rfl, (by show 3 ≤ sizeLine; decide), fun p hp => fin 0 _ _ (.look nroom ngoal) (by decide) p hp⟩
    · refine ⟨_, rfl, rfl, _, rfl, ?_⟩
      refine ⟨_, rfl, rfl, _, rfl, ?_⟩
      exact ⟨_, rfl, _, rfl, (by show 3 ≤ sizeLine; decide), fun p hp => fin 1 _ _ (.put nroom ho1) (by decide) p hp⟩
    · refine ⟨_, rfl, rfl, _, rfl, ?_⟩
      refine ⟨_, rfl, rfl, _, rfl, ?_⟩
      refine ⟨_, rfl, rfl, _, rfl, ?_⟩
      exact ⟨_, rfl, _, rfl, _, rfl, (by show 4 ≤ sizeLine; decide), fun p hp => fin 2 _ _ (.swap nroom ho1 ngoal) (by decide) p hp⟩
    · refine ⟨_, rfl, rfl, _, rfl, ?_⟩
      refine ⟨_, rfl, rfl, _, rfl, ?_⟩
      refine ⟨_, rfl, rfl, _, rfl, ?_⟩
      refine ⟨_, rfl, rfl, _, rfl, ?_⟩
      exact ⟨_, rfl, _, rfl, _, rfl, _, rfl, (by show 5 ≤ sizeLine; decide), fun p hp => fin 3 _ _ (.try_ nroom ho1 ho2 ngoal) (by decide) p hp⟩
    · refine ⟨_, rfl, rfl, _, rfl, ?_⟩
      refine ⟨_, rfl, rfl, _, rfl, ?_⟩
      refine ⟨_, rfl, rfl, _, rfl, ?_⟩
      refine ⟨_, rfl, rfl, _, rfl, ?_⟩
      exact ⟨_, rfl, _, rfl, (by show 3 ≤ sizeLine; decide), fun p hp => fin 4 _ _ (.let_ ngoal ho1) (by decide) p hp⟩
end
end K04
set_option Elab.async false
set_option linter.all false
set_option maxRecDepth 100000
set_option maxHeartbeats 4000000
namespace K04
open PySem PySem.Spec PyProof.Rows L2 Mo
def cap : Nat → Nat
  | 0 => 1
  | n + 1 => 1 + 6 * cap n
theorem cap_pos : ∀ n, 1 ≤ cap n
  | 0 => Nat.le_refl _
  | n + 1 => by
    show 1 ≤ 1 + 6 * cap n
    omega
section
variable {w : World} {K : PySem.W.Frag} {mg : Str → Option Value} {base : Heap} {A : Ads}
theorem lvB_cap {n : Nat} : ∀ {ts : List Tr}, (∀ t ∈ ts, lvT t ≤ n) → lvB ts ≤ n
  | [], _ => by rw [lvB_nil]; omega
  | t :: ts, h => by
    have h1 := h t List.mem_cons_self
    have h2 := lvB_cap fun u hu => h u (List.mem_cons_of_mem _ hu)
    rw [lvB_cons]
    omega
theorem amB_cap {n : Nat} : ∀ {ts : List Tr}, (∀ t ∈ ts, amT t ≤ n) → amB ts ≤ ts.length * n
  | [], _ => by rw [amB_nil]; omega
  | t :: ts, h => by
    have h1 := h t List.mem_cons_self
    have h2 := amB_cap fun u hu => h u (List.mem_cons_of_mem _ hu)
    rw [amB_cons, List.length_cons, Nat.succ_mul]
    omega
/-- a drawn tree -/
structure Drawn (t : Tr) (n m : Nat) (sort : Str) : Prop where
  lv : lvT t ≤ n
  am : amT t ≤ m
  ok : okT t = true
  go : sort = "joined" → goT t = true
def spStm (K : PySem.W.Frag) (n : Nat) : Sp := fun vs H Q _ => ∃ (a wl : Addr) (d : Int) (sort : Str), vs = [.ref a, .ref wl, .int d, .str sort] ∧ d = (n : Int) ∧ (sort = "loop" ∨ sort = "joined") ∧ Src H a ∧ WorldAt H wl ∧
  ∀ (p : Addr) (t : Tr) (H' : Hp), TrAt K H' p t → Drawn t (n + 1) (cap n) sort → Src H' a → KeepBut a H H' → Q (.ref p) H'
def spBdy (K : PySem.W.Frag) (n : Nat) : Sp := fun vs H Q _ => ∃ (a wl : Addr) (d : Int) (sort : Str) (m : Nat), vs = [.ref a, .ref wl, .int d, .str sort] ∧ d = (m : Int) ∧ n = m + 1 ∧ (sort = "loop" ∨ sort = "joined") ∧ Src H a ∧ WorldAt H wl ∧
  ∀ (pb : Addr) (ts : List Tr) (H' : Hp), BodyAt K H' pb ts → lvB ts ≤ m + 1 → amB ts ≤ 3 * cap m → okB ts = true → (sort = "joined" → goB ts = true) → Src H' a → KeepBut a H H' → Q (.ref pb) H'
theorem drawn_one {k n m : Nat} {xs : List Str} {line sort : Str} (hk : k ≤ 4) (hm : 1 ≤ m) : Drawn (.one k xs line) (n + 1) m sort := by
  refine ⟨?_, ?_, ?_, fun _ => ?_⟩
  · rw [lvT]
    omega
  · rw [amT]
    exact hm
  · rw [okT]
  · rw [goT]
    unfold goK
    rw [decide_eq_true hk]
    rfl
theorem stm_step (T : Txt K mg A) (n : Nat) (ih : FnOk P w K mg base CX0 (2 * n + 4) A.a_law_body A.d_law_body ["_law_source_here", "_law_world", "_law_deep", "_law_sort"] (spBdy K n)) :
    FnOk P w K mg base CX0 (2 * n + 5) A.a_law_statement A.d_law_statement ["_law_source_here", "_law_world", "_law_deep", "_law_sort"] (spStm K n) := by
  have nd := sc_law_statement.nd
  refine T.f_law_statement.ok sc_law_statement (fun vs H Q E h => ?_) (fun cdv A' outer s H vs Q E hr h => ?_)
  · obtain ⟨a, wl, d, sort, rfl, _⟩ := h
    rfl
  · obtain ⟨a, wl, d, sort, rfl, hd, hs, src, hw, q⟩ := h
    refine ⟨_, (pss_cons (ps_set (i := 4) nd rfl (Or.inl rfl) (pe_call (ok_law_take T) (hr.mono (by omega)) (by rfl) T.m_law_take T.k_law_take T.v_law_take .nil pass0 (pa_cons (pv 0) (pa_cons pe_int pa_nil))))
      (pss_cons (ps_if (PW.pt (pw_or (pt_cmpR op_lt (pv 2) pe_int (nomark _)) (pw_or1 (pt_cmpR op_lt (pv 4) pe_int (nomark _))))) (pss_one (ps_ret (pe_call (ok_law_line T) (hr.mono (by omega)) (by rfl) T.m_law_line T.k_law_line T.v_law_line .nil pass0 (pa_cons (pv 0) (pa_cons (pv 1) pa_nil))))) pss_nil)
      (pss_cons (ps_if (pt_cmpR op_lt (pv 4) pe_int (nomark _)) (pss_cons (ps_par (i := 5) (j := 6) rfl nd rfl rfl (by decide) rfl rfl (pa_cons (pe_call (ok_law_operand T) (hr.mono (by omega)) (by rfl) T.m_law_operand T.k_law_operand T.v_law_operand .nil pass0 (pa_cons (pv 0) (pa_cons (pe_ix ix_list (pv 1) pe_int (fun _ _ => rfl)) pa_nil))) (pa_cons (pe_call (ok_law_operand T) (hr.mono (by omega)) (by rfl) T.m_law_operand T.k_law_operand T.v_law_operand .nil pass0 (pa_cons (pv 0) (pa_cons (pe_ix ix_list (pv 1) pe_int (fun _ _ => rfl)) pa_nil))) pa_nil)) (by rfl))
      (pss_cons (ps_set (i := 7) nd rfl (Or.inl rfl) (pe_call ih (hr.mono (by omega)) (by rfl) T.m_law_body T.k_law_body T.v_law_body .nil pass0 (pa_cons (pv 0) (pa_cons (pv 1) (pa_cons (pe_op op_sub (pv 2) pe_int) (pa_cons (pv 3) pa_nil))))))
      (pss_one (ps_ret (pe_tup (pa_cons pe_str (pa_cons (pv 5) (pa_cons (pv 6) (pa_cons (pv 7) (pa_cons (pe_ifExp (pt_cmpR op_gt (pv 4) pe_int (nomark _)) (pe_call ih (hr.mono (by omega)) (by rfl) T.m_law_body T.k_law_body T.v_law_body .nil pass0 (pa_cons (pv 0) (pa_cons (pv 1) (pa_cons (pe_op op_sub (pv 2) pe_int) (pa_cons (pv 3) pa_nil))))) (pe_tup pa_nil)) pa_nil)))))))))) pss_nil)
      (pss_cons (ps_if (pt_cmpR op_eq (pv 3) pe_str (nomark _)) (pss_one (ps_ret (pe_call (ok_law_line T) (hr.mono (by omega)) (by rfl) T.m_law_line T.k_law_line T.v_law_line .nil pass0 (pa_cons (pv 0) (pa_cons (pv 1) pa_nil))))) pss_nil)
      (pss_cons (ps_if (pt_cmpR op_eq (pv 4) pe_int (nomark _)) (pss_one (ps_ret (pe_tup (pa_cons pe_str (pa_cons (pe_call ih (hr.mono (by omega)) (by rfl) T.m_law_body T.k_law_body T.v_law_body .nil pass0 (pa_cons (pv 0) (pa_cons (pv 1) (pa_cons (pe_op op_sub (pv 2) pe_int) (pa_cons pe_str pa_nil))))) pa_nil))))) pss_nil)
      (pss_cons (ps_if (pt_cmpR op_eq (pv 4) pe_int (nomark _)) (pss_one (ps_ret (pe_tup (pa_cons pe_str (pa_cons (pe_call ih (hr.mono (by omega)) (by rfl) T.m_law_body T.k_law_body T.v_law_body .nil pass0 (pa_cons (pv 0) (pa_cons (pv 1) (pa_cons (pe_op op_sub (pv 2) pe_int) (pa_cons pe_str pa_nil))))) pa_nil))))) pss_nil)
      (pss_one (ps_ret (pe_ifExp (pt_cmpR op_eq (pv 3) pe_str (nomark _)) (pe_tup (pa_cons pe_str pa_nil)) (pe_tup (pa_cons pe_str (pa_cons (pe_call (ok_law_operand T) (hr.mono (by omega)) (by rfl) T.m_law_operand T.k_law_operand T.v_law_operand .nil pass0 (pa_cons (pv 0) (pa_cons (pe_ix ix_list (pv 1) pe_int (fun _ _ => rfl)) pa_nil))) pa_nil)))))))))))), ?_⟩
    refine ⟨_, rfl, a, _, rfl, src, by decide, by decide, fun way H2 w0 w1 src2 kb2 => ?_⟩
    have hw2 := hw.mv src kb2
    have cp := cap_pos n
    have line : ∃ (a' wl' : Addr), [V.ref a, V.ref wl] = [.ref a', .ref wl'] ∧ Src H2 a' ∧ WorldAt H2 wl' ∧ ∀ (p : Addr) (k : Nat) (xs : List Str) (line : Str) (H' : Hp), TrAt K H' p (.one k xs line) → k ≤ 4 → Src H' a' → KeepBut a' H2 H' → Q (.ref p) H' :=
      ⟨a, wl, rfl, src2, hw2, fun p k xs line H3 tr hk src3 kb3 => q p _ H3 tr (drawn_one hk cp) src3 (kb2.trans kb3)⟩
    refine ⟨_, rfl, _, _, rfl, rfl, _, rfl, ?_⟩
    refine ite2 (fun h1 => ?_) (fun h1 => ?_)
    · exact ⟨_, rfl, _, rfl, line⟩
    refine ⟨_, rfl, _, _, rfl, rfl, _, rfl, ?_⟩
    refine ite2 (fun h2 => ?_) (fun h2 => ?_)
    · exact ⟨_, rfl, _, rfl, line⟩
    have h1 : ¬ decide (d < 1) = true := h1
    have h2 : ¬ decide (way < 4) = true := h2
    have h1 : ¬ d < 1 := fun z => h1 (decide_eq_true z)
    have h2 : ¬ way < 4 := fun z => h2 (decide_eq_true z)
    obtain ⟨m, rfl⟩ : ∃ m : Nat, n = m + 1 := ⟨n - 1, by omega⟩
    have ce : cap (m + 1) = 1 + 6 * cap m := rfl
    refine ⟨_, rfl, _, _, rfl, rfl, _, rfl, ?_⟩
    refine ite2 (fun h3 => ?_) (fun h3 => ?_)
    · have hw2' := hw2
      obtain ⟨nm, gl, rm, zs, gs, rs, g1, g2, g3, g4, l1, l2, l3, l4, l5, l6, nz, ng, nr⟩ := hw2'
      refine ⟨_, rfl, _, rfl, wl, _, _, _, rfl, rfl, SqL.of g1, atI_nat (j := 0) rfl, a, nm, zs, rfl, src2, g2, l2, nz, fun o1 H3 ho1 src3 kb3 => ?_⟩
      have hw3 := hw2.mv src2 kb3
      have hnm3 := kb3 _ _ (ne_src src2 g2 l1) g2
      have hwl3 : H3 wl = some (.lst [.ref nm, .ref gl, .ref rm]) := kb3 _ _ (by
        obtain ⟨x, y, c, e, _⟩ := src2
        exact ne_of g1 e (by intro z; injection z with z; injection z with z; cases z)) g1
      refine ⟨_, rfl, _, rfl, wl, _, _, _, rfl, rfl, SqL.of hwl3, atI_nat (j := 0) rfl, a, nm, zs, rfl, src3, hnm3, l2, nz, fun o2 H4 ho2 src4 kb4 => ⟨_, _, rfl, ?_⟩⟩
      have hw4 := hw3.mv src3 kb4
      refine ⟨_, rfl, _, rfl, _, rfl, _, _, rfl, rfl, _, rfl, a, wl, d - 1, sort, m, rfl, by omega, rfl, hs, src4, hw4, fun pb ts H5 bd lv am ok go src5 kb5 => ?_⟩
      have hw5 := hw4.mv src4 kb5
      have kb05 := ((kb2.trans kb3).trans kb4).trans kb5
      refine ⟨_, rfl, _, rfl, _, rfl, _, rfl, _, _, rfl, rfl, _, rfl, ?_⟩
      refine ite2 (fun h4 => ?_) (fun h4 => ?_)
      · refine ⟨_, rfl, _, rfl, _, rfl, _, _, rfl, rfl, _, rfl, a, wl, d - 1, sort, m, rfl, by omega, rfl, hs, src5, hw5, fun pe us H6 be lv2 am2 ok2 go2 src6 kb6 => ⟨(by show 5 ≤ sizeLine; decide), fun p hp => ?_⟩⟩
        have s7 := same_new (o := .tup [.str "if", .str o1, .str o2, .ref pb, .ref pe]) hp
        obtain ⟨ps, sq1, tr1⟩ := (bd.mv (src5.kp kb6)).mv (KpT.of_same s7)
        obtain ⟨qs, sq2, tr2⟩ := be.mv (KpT.of_same s7)
        refine q p (.cond o1 o2 ts us) _ (.cond upd_same ho1 ho2 sq1 sq2 tr1 tr2) ⟨?_, ?_, ?_, fun e => ?_⟩ (src6.same s7) ((kb05.trans kb6).trans (KeepBut.of_same s7))
        · rw [lvT]
          omega
        · rw [amT]
          omega
        · rw [okT, ok, ok2]
          rfl
        · rw [goT, go e, go2 e]
          rfl
      · refine ⟨Nat.zero_le _, fun pe hpe => ⟨(by show 5 ≤ sizeLine; decide), fun p hp => ?_⟩⟩
        have s6 := same_new (o := .tup []) hpe
        have s7 := same_new (o := .tup [.str "if", .str o1, .str o2, .ref pb, .ref pe]) hp
        obtain ⟨ps, sq1, tr1⟩ := bd.mv (KpT.of_same (s6.trans s7))
        refine q p (.cond o1 o2 ts []) _ (.cond (qs := []) upd_same ho1 ho2 sq1 (SqT.of (s7 _ _ upd_same)) tr1 .nil) ⟨?_, ?_, ?_, fun e => ?_⟩ (src5.same (s6.trans s7)) (kb05.trans (KeepBut.of_same (s6.trans s7)))
        · rw [lvT, lvB_nil]
          omega
        · rw [amT, amB_nil]
          omega
        · rw [okT, ok, okB_nil]
          rfl
        · rw [goT, go e, goB_nil]
          rfl
    have h3 : ¬ decide (way < 7) = true := h3
    have h3 : ¬ way < 7 := fun z => h3 (decide_eq_true z)
    rcases hs with rfl | rfl
    rotate_left
    · refine ⟨_, rfl, rfl, _, rfl, ?_⟩
      exact ⟨_, rfl, _, rfl, line⟩
    refine ⟨_, rfl, rfl, _, rfl, ?_⟩
    have w' : way = 7 ∨ way = 8 ∨ way = 9 := by omega
    have nj : ∀ x : Tr, ("loop" : Str) = "joined" → goT x = true := fun x e => absurd e (by decide)
    rcases w' with rfl | rfl | rfl
    · refine ⟨_, rfl, rfl, _, rfl, ?_⟩
      refine ⟨_, rfl, _, rfl, _, rfl, _, _, rfl, rfl, a, wl, d - 1, "loop", m, rfl, by omega, rfl, .inl rfl, src2, hw2, fun pb ts H5 bd lv am ok go src5 kb5 => ⟨(by show 2 ≤ sizeLine; decide), fun p hp => ?_⟩⟩
      have s7 := same_new (o := .tup [.str "loop", .ref pb]) hp
      obtain ⟨ps, sq1, tr1⟩ := bd.mv (KpT.of_same s7)
      refine q p (.loop ts) _ (.loop upd_same sq1 tr1) ⟨?_, ?_, ?_, nj _⟩ (src5.same s7) ((kb2.trans kb5).trans (KeepBut.of_same s7))
      · rw [lvT]
        omega
      · rw [amT]
        omega
      · rw [okT, ok]
    · refine ⟨_, rfl, rfl, _, rfl, ?_⟩
      refine ⟨_, rfl, rfl, _, rfl, ?_⟩
      refine ⟨_, rfl, _, rfl, _, rfl, _, _, rfl, rfl, a, wl, d - 1, "joined", m, rfl, by omega, rfl, .inr rfl, src2, hw2, fun pb ts H5 bd lv am ok go src5 kb5 => ⟨(by show 2 ≤ sizeLine; decide), fun p hp => ?_⟩⟩
      have s7 := same_new (o := .tup [.str "joined", .ref pb]) hp
      obtain ⟨ps, sq1, tr1⟩ := bd.mv (KpT.of_same s7)
      refine q p (.joined ts) _ (.joined upd_same sq1 tr1) ⟨?_, ?_, ?_, nj _⟩ (src5.same s7) ((kb2.trans kb5).trans (KeepBut.of_same s7))
      · rw [lvT]
        omega
      · rw [amT]
        omega
      · rw [okT, ok, go rfl]
        rfl
    · refine ⟨_, rfl, rfl, _, rfl, ?_⟩
      refine ⟨_, rfl, rfl, _, rfl, ?_⟩
      refine ⟨_, rfl, rfl, _, rfl, (by show 1 ≤ sizeLine; decide), fun p hp => ?_⟩
      have s7 := same_new (o := .tup [.str "leave"]) hp
      refine q p (.one 5 ["leave"] "leave") _ (.one upd_same .leave) ⟨?_, ?_, ?_, nj _⟩ (src2.same s7) (kb2.trans (KeepBut.of_same s7))
      · rw [lvT]
        omega
      · rw [amT]
        exact cp
      · rw [okT]
theorem bdy_step (T : Txt K mg A) (n : Nat) (ih : FnOk P w K mg base CX0 (2 * n + 5) A.a_law_statement A.d_law_statement ["_law_source_here", "_law_world", "_law_deep", "_law_sort"] (spStm K n)) :
    FnOk P w K mg base CX0 (2 * (n + 1) + 4) A.a_law_body A.d_law_body ["_law_source_here", "_law_world", "_law_deep", "_law_sort"] (spBdy K (n + 1)) := by
  have nd := sc_law_body.nd
  refine T.f_law_body.ok sc_law_body (fun vs H Q E h => ?_) (fun cdv A' outer s H vs Q E hr h => ?_)
  · obtain ⟨a, wl, d, sort, m, rfl, _⟩ := h
    rfl
  · obtain ⟨a, wl, d, sort, m, rfl, hd, hm, hs, src, hw, q⟩ := h
    cases hm
    refine ⟨_, (pss_one (ps_ret (pe_callTy call_tuple_of (by rfl) T.b_tuple (by decide +kernel) (pa_cons (pe_lc (own := [("_law_turn", 4)]) (g := gName 4) (tt := tYes) rfl nd (pi_range1 (by rfl) T.b_range (pa_cons (pe_call (ok_law_take T) (hr.mono (by omega)) (by rfl) T.m_law_take T.k_law_take T.v_law_take .nil pass0 (pa_cons (pv 0) (pa_cons pe_int pa_nil))) pa_nil)) (blkOk_by (N := nm_law_body) (sc := defScope st_law_body) (by decide +kernel)) (fun _ _ _ _ _ => (pg_name (i := 4) nd rfl (Or.inl rfl))) (fun _ _ _ _ _ => pts_nil) (fun _ _ _ _ _ => (pe_call ih (hr.mono (by omega)) (by rfl) T.m_law_statement T.k_law_statement T.v_law_statement .nil pass0 (pa_cons (pv 0) (pa_cons (pv 1) (pa_cons (pv 2) (pa_cons (pv 3) pa_nil))))))) pa_nil)))), ?_⟩
    refine ⟨_, rfl, a, _, rfl, src, by decide, by decide, fun many H2 m0 m1 src2 kb2 => ?_⟩
    obtain ⟨mm, rfl⟩ : ∃ mm : Nat, many = (mm : Int) := ⟨many.toNat, by omega⟩
    have hw2 := hw.mv src kb2
    refine ⟨_, rfl, by omega, by omega, fun D hD => ?_⟩
    have nDa : D ≠ a := src2.fresh hD
    refine lc_it (walk_range (lo := 0) (n := mm)) (fun i H6 => KeepBut a H2 H6 ∧ Src H6 a ∧ ∃ (qs : List Addr) (ts : List Tr), ts.length = i ∧ H6 D = some (.lst (qs.map V.ref)) ∧ TrsAt K H6 qs ts ∧ ∀ t ∈ ts, Drawn t (n + 1) (cap n) sort) ⟨KeepBut.of_same (same_new hD), src2.same (same_new hD), [], [], rfl, upd_same, .nil, fun _ h => (List.not_mem_nil h).elim⟩ (fun _ _ _ _ => trivial) ?_ ?_
    · rintro i x H5 H6 hi ⟨kb, s6, qs, ts, lt, hd6, tr, dr⟩ ⟨rfl, rfl⟩
      refine ⟨rfl, _, rfl, _, rfl, _, rfl, _, rfl, a, wl, d, sort, rfl, hd, hs, s6, hw2.mv src2 kb, fun p t H7 trt dt s7 kb7 => ?_⟩
      have hd7 := kb7 _ _ nDa hd6
      have ll := tr.len
      refine ⟨_, hd7, ?_, ?_, s7.upd nDa, qs ++ [p], ts ++ [t], ?_, ?_, ?_, ?_⟩
      · rw [List.length_map]
        exact lt5000 (by omega)
      · intro b o nb e
        rw [upd_ne (ne_of_none e hD)]
        exact kb7 _ _ nb (kb _ _ nb e)
      · rw [List.length_append, lt]
        rfl
      · rw [upd_same, List.map_append]
        rfl
      · have k2 := KpT.lst hd7 (KeepBut.upd D H7 (.lst (qs.map V.ref ++ [.ref p])))
        exact ((tr.mv (s6.kp kb7)).mv k2).app (.cons (trt.mv k2) .nil)
      · intro u hu
        rcases List.mem_append.mp hu with hu | hu
        · exact dr u hu
        · rw [List.mem_singleton.mp hu]
          exact dt
    · rintro H6 ⟨kb, s6, qs, ts, lt, hd6, tr, dr⟩
      refine ⟨D, _, rfl, .inl ⟨SqL.of hd6, fun pb hp => ?_⟩⟩
      have s7 := same_new (o := .tup (qs.map V.ref)) hp
      have am := amB_cap (fun t ht => (dr t ht).am)
      refine q pb ts _ ⟨qs, SqT.of upd_same, tr.mv (KpT.of_same s7)⟩ (lvB_cap fun t ht => (dr t ht).lv) ?_ ?_ (fun e => ?_) (s6.same s7) ((kb2.trans kb).trans (KeepBut.of_same s7))
      · have : ts.length ≤ 3 := by omega
        exact Nat.le_trans am (Nat.mul_le_mul_right _ this)
      · rw [okB_all]
        exact List.all_eq_true.mpr fun t ht => (dr t ht).ok
      · rw [goB_all]
        exact List.all_eq_true.mpr fun t ht => (dr t ht).go e
theorem bdy_vac : FnOk P w K mg base CX0 (2 * 0 + 4) A.a_law_body A.d_law_body ["_law_source_here", "_law_world", "_law_deep", "_law_sort"] (spBdy K 0) := FnOk.vac fun vs H Q E h => by
  obtain ⟨a, wl, d, sort, m, _, _, h, _⟩ := h
  omega
theorem ok_law_statement_n (T : Txt K mg A) : ∀ n : Nat, FnOk P w K mg base CX0 (2 * n + 5) A.a_law_statement A.d_law_statement ["_law_source_here", "_law_world", "_law_deep", "_law_sort"] (spStm K n)
  | 0 => stm_step T 0 bdy_vac
  | n + 1 => stm_step T (n + 1) (bdy_step T n (ok_law_statement_n T n))
theorem ok_law_statement (T : Txt K mg A) : FnOk P w K mg base CX0 9 A.a_law_statement A.d_law_statement ["_law_source_here", "_law_world", "_law_deep", "_law_sort"] (spStm K 2) := ok_law_statement_n T 2
end
end K04
set_option Elab.async false
set_option linter.all false
set_option maxRecDepth 100000
set_option maxHeartbeats 4000000
namespace K04
open PySem PySem.Spec PyProof.Rows L2 Mo
section
variable {w : World} {K : PySem.W.Frag} {mg : Str → Option Value} {base : Heap} {A : Ads}
def spFit (K : PySem.W.Frag) : Sp := fun vs H Q _ => ∃ (l : Addr) (mo pc : Int) (ps : List Addr) (ts : List Tr), vs = [.ref l, .int mo, .int pc] ∧ 0 ≤ mo ∧ H l = some (.lst (ps.map V.ref)) ∧ TrsAt K H ps ts ∧ ts.length ≤ 3 ∧ (∀ t ∈ ts, lvT t ≤ 3 ∧ amT t ≤ 43) ∧
  ∀ (pb : Addr) (us : List Tr) (H' : Hp), BodyAt K H' pb us → ((amB us : Nat) : Int) ≤ mo → us.length ≤ 3 → (∀ t ∈ us, t ∈ ts) → Same H H' → Q (.ref pb) H'
theorem ok_law_fitting (T : Txt K mg A) : FnOk P w K mg base CX0 11 A.a_law_fitting A.d_law_fitting ["_law_trees", "_law_most", "_law_paces_here"] (spFit K) := by
  have nd := sc_law_fitting.nd
  refine T.f_law_fitting.ok sc_law_fitting (fun vs H Q E h => ?_) (fun cdv A' outer s H vs Q E hr h => ?_)
  · obtain ⟨l, mo, pc, ps, ts, rfl, _⟩ := h
    rfl
  · obtain ⟨l, mo, pc, ps, ts, rfl, hmo, hl, tr, lt, bd, q⟩ := h
    have ltr := tr.len
    refine ⟨_, (pss_cons (ps_set (i := 3) nd rfl (Or.inl rfl) (pe_lst pa_nil))
      (pss_cons (ps_for PassesOwn.never rfl (pi_list (pv 0)) (pg_name (i := 4) nd rfl (Or.inl rfl)) (pss_one (ps_if (PW.pt (pw_and (pt_cmpR op_le (pe_call (ok_law_size T 8) (hr.mono (by decide)) (by rfl) T.m_law_size T.k_law_size T.v_law_size .nil pass0 (pa_cons (pe_op op_cat (pv 3) (pe_lst (pa_cons (pv 4) pa_nil))) pa_nil)) (pv 1) (nomark _)) (pw_and1 (pt_cmpR op_le (pe_call (ok_law_paces T 8) (hr.mono (by decide)) (by rfl) T.m_law_paces T.k_law_paces T.v_law_paces .nil pass0 (pa_cons (pe_op op_cat (pv 3) (pe_lst (pa_cons (pv 4) pa_nil))) pa_nil)) (pv 2) (nomark _))))) (pss_one (ps_expr (pe_bm PySem.F.plainAttrs_list PySem.F.slot_list_append PySem.F.type_list_append mt_append (pv 3) (pa_cons (pv 4) pa_nil)))) pss_nil)))
      (pss_one (ps_ret (pe_callTy call_tuple_of (by rfl) T.b_tuple (by decide +kernel) (pa_cons (pv 3) pa_nil)))))), ?_⟩
    refine ⟨Nat.zero_le _, fun f nf => ?_⟩
    have s0 := same_new (o := .lst []) nf
    refine ⟨_, rfl, l, rfl, ⟨_, SqL.of (s0 _ _ hl)⟩, for_it (walk_list (K := K) (a := l) (xs := ps.map V.ref)) (fun i σ H2 => Same H H2 ∧ ∃ (v4 : Option V) (qs : List Addr) (us : List Tr), σ = [some (.ref l), some (.int mo), some (.int pc), some (.ref f), v4] ∧ H2 f = some (.lst (qs.map V.ref)) ∧ TrsAt K H2 qs us ∧ ((amB us : Nat) : Int) ≤ mo ∧ us.length ≤ i ∧ ∀ t ∈ us, t ∈ ts) ⟨s0, none, [], [], rfl, upd_same, .nil, by rw [amB_nil]; exact hmo, Nat.le_refl _, fun _ h => (List.not_mem_nil h).elim⟩ (fun i σ H2 _ h => SqL.of (h.1 _ _ hl)) ?_ ?_⟩
    · rintro i x σ H1 H2 hi ⟨s2, v4, qs, us, rfl, hf, tru, amu, lu, mu⟩ ⟨rfl, hx⟩
      rw [List.getElem?_map] at hx
      obtain ⟨p, hp, rfl⟩ := Option.map_eq_some_iff.mp hx
      obtain ⟨t, ht, trp⟩ := tr.get hp
      have tm := List.mem_of_getElem? ht
      have il := (List.getElem?_eq_some_iff.mp ht).1
      have luq := tru.len
      have bm : ∀ u ∈ us ++ [t], u ∈ ts := by
        intro u hu
        rcases List.mem_append.mp hu with hu | hu
        · exact mu u hu
        · rw [List.mem_singleton.mp hu]
          exact tm
      have lv1 : lvB (us ++ [t]) ≤ 3 := lvB_cap fun u hu => (bd u (bm u hu)).1
      have am1 : amB (us ++ [t]) ≤ (us ++ [t]).length * 43 := amB_cap fun u hu => (bd u (bm u hu)).2
      rw [List.length_append] at am1
      have am2 : amB (us ++ [t]) ≤ 1000 := by
        have : us.length + [t].length ≤ 4 := by
          show us.length + 1 ≤ 4
          omega
        exact Nat.le_trans am1 (Nat.le_trans (Nat.mul_le_mul_right 43 this) (by decide))
      have lq : (qs.map V.ref).length + [V.ref p].length ≤ sizeLine := by
        rw [List.length_map]
        exact len5000 (by show qs.length + 1 ≤ 5000; omega)
      -- the list with the next one
      have sz : ∀ (H3 : Hp), Same H2 H3 → ∀ (q1 : Addr), H3 q1 = none → ∀ q2, (upd H3 q1 (.lst [.ref p])) q2 = none → TrsAt K (upd (upd H3 q1 (.lst [.ref p])) q2 (.lst (qs.map V.ref ++ [.ref p]))) (qs ++ [p]) (us ++ [t]) ∧ Same H2 (upd (upd H3 q1 (.lst [.ref p])) q2 (.lst (qs.map V.ref ++ [.ref p]))) := by
        intro H3 s3 q1 n1 q2 n2
        have s5 := (s3.trans (same_new (o := .lst [.ref p]) n1)).trans (same_new (o := .lst (qs.map V.ref ++ [.ref p])) n2)
        exact ⟨(tru.mv (KpT.of_same s5)).app (.cons ((trp.mv (KpT.of_same s2)).mv (KpT.of_same s5)) .nil), s5⟩
      have mapq : qs.map V.ref ++ [V.ref p] = (qs ++ [p]).map V.ref := by rw [List.map_append]; rfl
      refine ⟨_, rfl, _, rfl, (by show 1 ≤ sizeLine; decide), fun q1 n1 => ⟨f, q1, _, _, rfl, rfl, same_new n1 _ _ hf, upd_same, lq, fun q2 n2 => ?_⟩⟩
      obtain ⟨tr5, s5⟩ := sz H2 (Same.refl _) q1 n1 q2 n2
      refine ⟨q2, qs ++ [p], us ++ [t], rfl, .inl (SqL.of (by rw [upd_same, mapq])), tr5, by omega, am2, fun H6 s6 => ?_⟩
      have s26 := s5.trans s6
      refine ⟨_, rfl, _, _, rfl, rfl, _, rfl, ?_⟩
      refine ite2 (fun hle => ?_) (fun hle => ?_)
      rotate_left
      · exact ⟨s2.trans s26, _, qs, us, rfl, s26 _ _ hf, tru.mv (KpT.of_same s26), amu, by omega, mu⟩
      have hle : decide (((amB (us ++ [t]) : Nat) : Int) ≤ mo) = true := hle
      have hle := of_decide_eq_true hle
      refine ⟨_, rfl, _, rfl, (by show 1 ≤ sizeLine; decide), fun q3 n3 => ⟨f, q3, _, _, rfl, rfl, same_new n3 _ _ (s26 _ _ hf), upd_same, lq, fun q4 n4 => ?_⟩⟩
      obtain ⟨tr7, s7⟩ := sz H6 s26 q3 n3 q4 n4
      refine ⟨q4, qs ++ [p], us ++ [t], rfl, .inl (SqL.of (by rw [upd_same, mapq])), tr7, by omega, am2, fun H8 s8 => ?_⟩
      have s28 := s7.trans s8
      refine ⟨_, rfl, _, _, rfl, rfl, _, rfl, ?_⟩
      refine ite2 (fun _ => ?_) (fun _ => ?_)
      rotate_left
      · exact ⟨s2.trans s28, _, qs, us, rfl, s28 _ _ hf, tru.mv (KpT.of_same s28), amu, by omega, mu⟩
      have hf8 := s28 _ _ hf
      have k9 := KpT.lst hf8 (KeepBut.upd f H8 (.lst (qs.map V.ref ++ [.ref p])))
      refine ⟨_, rfl, Or.inl ⟨rfl, _, SqL.of hf8⟩, _, rfl, f, _, _, rfl, rfl, hf8, ?_, ?_⟩
      · rw [List.length_map]
        exact lt5000 (by omega)
      · refine ⟨fun b o e => ?_, _, qs ++ [p], us ++ [t], rfl, by rw [upd_same, mapq], (tr7.mv (KpT.of_same s8)).mv k9, hle, ?_, bm⟩
        · rw [upd_ne (ne_of_none e nf)]
          exact s28 _ _ (s2 _ _ e)
        · rw [List.length_append]
          show us.length + 1 ≤ i + 1
          omega
    · rintro σ H2 ⟨s2, v4, qs, us, rfl, hf, tru, amu, lu, mu⟩
      rw [List.length_map] at lu
      refine ⟨_, rfl, f, _, rfl, .inl ⟨SqL.of hf, fun pb hp => ?_⟩⟩
      have s3 := same_new (o := .tup (qs.map V.ref)) hp
      exact q pb us _ ⟨qs, SqT.of upd_same, tru.mv (KpT.of_same s3)⟩ amu (by omega) mu (s2.trans s3)
def spSides (K : PySem.W.Frag) : Sp := fun vs H Q _ => ∃ (a wl : Addr) (sort : Str), vs = [.ref a, .ref wl, .str sort] ∧ (sort = "loop" ∨ sort = "joined") ∧ Src H a ∧ WorldAt H wl ∧
  ∀ (pb : Addr) (us : List Tr) (H' : Hp), BodyAt K H' pb us → amB us ≤ 30 → us.length ≤ 3 → (∀ t ∈ us, Drawn t 3 43 sort) → Src H' a → KeepBut a H H' → Q (.ref pb) H'
theorem ok_law_sides (T : Txt K mg A) : FnOk P w K mg base CX0 12 A.a_law_sides A.d_law_sides ["_law_source_here", "_law_world", "_law_sort"] (spSides K) := by
  have nd := sc_law_sides.nd
  refine T.f_law_sides.ok sc_law_sides (fun vs H Q E h => ?_) (fun cdv A' outer s H vs Q E hr h => ?_)
  · obtain ⟨a, wl, sort, rfl, _⟩ := h
    rfl
  · obtain ⟨a, wl, sort, rfl, hs, src, hw, q⟩ := h
    refine ⟨_, (pss_cons (ps_setLc (i := 3) (own := [("_law_turn", 4)]) (g := gName 4) (tt := tYes) rfl nd rfl rfl (sw_true rfl rfl rfl (by decide +kernel)) (pi_range1 (by rfl) T.b_range (pa_cons (pe_call (ok_law_take T) (hr.mono (by decide)) (by rfl) T.m_law_take T.k_law_take T.v_law_take .nil pass0 (pa_cons (pv 0) (pa_cons pe_int pa_nil))) pa_nil)) (blkOk_by (N := nm_law_sides) (sc := defScope st_law_sides) (by decide +kernel)) (fun _ _ _ _ _ => (pg_name (i := 4) nd rfl (Or.inl rfl))) (fun _ _ _ _ _ => pts_nil) (fun _ _ _ _ _ => (pe_call (ok_law_statement T) (hr.mono (by decide)) (by rfl) T.m_law_statement T.k_law_statement T.v_law_statement .nil pass0 (pa_cons (pv 0) (pa_cons (pv 1) (pa_cons pe_int (pa_cons (pv 2) pa_nil)))))))
      (pss_one (ps_ret (pe_call (ok_law_fitting T) (hr.mono (by decide)) (by rfl) T.m_law_fitting T.k_law_fitting T.v_law_fitting .nil pass0 (pa_cons (pv 3) (pa_cons pe_int (pa_cons pe_int pa_nil))))))), ?_⟩
    refine ⟨_, rfl, a, _, rfl, src, by decide, by decide, fun many H2 m0 m1 src2 kb2 => ?_⟩
    obtain ⟨mm, rfl⟩ : ∃ mm : Nat, many = (mm : Int) := ⟨many.toNat, by omega⟩
    have hw2 := hw.mv src kb2
    refine ⟨_, rfl, by omega, by omega, fun D hD => ?_⟩
    have nDa : D ≠ a := src2.fresh hD
    refine lc_it (walk_range (lo := 0) (n := mm)) (fun i H6 => KeepBut a H2 H6 ∧ Src H6 a ∧ ∃ (qs : List Addr) (ts : List Tr), ts.length = i ∧ H6 D = some (.lst (qs.map V.ref)) ∧ TrsAt K H6 qs ts ∧ ∀ t ∈ ts, Drawn t 3 43 sort) ⟨KeepBut.of_same (same_new hD), src2.same (same_new hD), [], [], rfl, upd_same, .nil, fun _ h => (List.not_mem_nil h).elim⟩ (fun _ _ _ _ => trivial) ?_ ?_
    · rintro i x H5 H6 hi ⟨kb, s6, qs, ts, lt, hd6, tr, dr⟩ ⟨rfl, rfl⟩
      refine ⟨rfl, _, rfl, _, rfl, _, rfl, a, wl, 2, sort, rfl, rfl, hs, s6, hw2.mv src2 kb, fun p t H7 trt dt s7 kb7 => ?_⟩
      have hd7 := kb7 _ _ nDa hd6
      have ll := tr.len
      refine ⟨_, hd7, ?_, ?_, s7.upd nDa, qs ++ [p], ts ++ [t], ?_, ?_, ?_, ?_⟩
      · rw [List.length_map]
        exact lt5000 (by omega)
      · intro b o nb e
        rw [upd_ne (ne_of_none e hD)]
        exact kb7 _ _ nb (kb _ _ nb e)
      · rw [List.length_append, lt]
        rfl
      · rw [upd_same, List.map_append]
        rfl
      · have k2 := KpT.lst hd7 (KeepBut.upd D H7 (.lst (qs.map V.ref ++ [.ref p])))
        exact ((tr.mv (s6.kp kb7)).mv k2).app (.cons (trt.mv k2) .nil)
      · intro u hu
        rcases List.mem_append.mp hu with hu | hu
        · exact dr u hu
        · rw [List.mem_singleton.mp hu]
          exact dt
    · rintro H6 ⟨kb, s6, qs, ts, lt, hd6, tr, dr⟩
      refine ⟨_, rfl, D, 30, 99, qs, ts, rfl, by decide, hd6, tr, by omega, fun t ht => ⟨(dr t ht).lv, (dr t ht).am⟩, fun pb us H7 bu am lu mu s7 => ?_⟩
      exact q pb us H7 bu (by omega) lu (fun t ht => dr t (mu t ht)) (s6.same s7) ((kb2.trans kb).trans (KeepBut.of_same s7))
end
end K04
set_option Elab.async false
set_option linter.all false
set_option maxRecDepth 100000
set_option maxHeartbeats 4000000
namespace K04
open PySem PySem.Spec PyProof.Rows L2 Mo
section
variable {w : World} {K : PySem.W.Frag} {mg : Str → Option Value} {base : Heap} {A : Ads}
theorem drawn_ok {us : List Tr} {n m : Nat} {sort : Str} (h : ∀ t ∈ us, Drawn t n m sort) : lvB us ≤ n ∧ okB us = true ∧ (sort = "joined" → goB us = true) := by
  refine ⟨lvB_cap fun t ht => (h t ht).lv, ?_, fun e => ?_⟩
  · rw [okB_all]
    exact List.all_eq_true.mpr fun t ht => (h t ht).ok
  · rw [goB_all]
    exact List.all_eq_true.mpr fun t ht => (h t ht).go e
theorem cut_refs (qs : List Addr) (lo hi : Option Int) : ∃ i j, cutV (qs.map V.ref) lo hi = ((qs.drop i).take j).map V.ref := by
  unfold cutV
  exact ⟨HT.sIx (qs.map V.ref).length 0 lo, HT.sIx (qs.map V.ref).length (qs.map V.ref).length hi - HT.sIx (qs.map V.ref).length 0 lo, by rw [List.map_take, List.map_drop]⟩
theorem cut_two (qs : List Addr) : ∃ i j, cutV (qs.map V.ref) none (some 2) = ((qs.drop i).take j).map V.ref ∧ j ≤ 2 := by
  unfold cutV
  refine ⟨HT.sIx (qs.map V.ref).length 0 none, HT.sIx (qs.map V.ref).length (qs.map V.ref).length (some 2) - HT.sIx (qs.map V.ref).length 0 none, ?_, ?_⟩
  · rw [List.map_take, List.map_drop]
  · have : HT.sIx (qs.map V.ref).length (qs.map V.ref).length (some 2) ≤ 2 := by
      have := HT.sIx_nat (qs.map V.ref).length (qs.map V.ref).length 2
      rw [show ((2 : Nat) : Int) = 2 from rfl] at this
      omega
    omega
def spHolder (K : PySem.W.Frag) : Sp := fun vs H Q _ => ∃ (a wl : Addr), vs = [.ref a, .ref wl] ∧ Src H a ∧ WorldAt H wl ∧
  ∀ (p : Addr) (t : Tr) (H' : Hp), TrAt K H' p t → 7 ≤ t.k → lvT t ≤ 5 → amT t ≤ 40 → okT t = true → Src H' a → KeepBut a H H' → Q (.ref p) H'
theorem ok_law_holder (T : Txt K mg A) : FnOk P w K mg base CX0 13 A.a_law_holder A.d_law_holder ["_law_source_here", "_law_world"] (spHolder K) := by
  have nd := sc_law_holder.nd
  refine T.f_law_holder.ok sc_law_holder (fun vs H Q E h => ?_) (fun cdv A' outer s H vs Q E hr h => ?_)
  · obtain ⟨a, wl, rfl, _⟩ := h
    rfl
  · obtain ⟨a, wl, rfl, src, hw, q⟩ := h
    refine ⟨_, (pss_cons (ps_set (i := 2) nd rfl (Or.inl rfl) (pe_call (ok_law_take T) (hr.mono (by decide)) (by rfl) T.m_law_take T.k_law_take T.v_law_take .nil pass0 (pa_cons (pv 0) (pa_cons pe_int pa_nil))))
      (pss_cons (ps_if (pt_cmpR op_eq (pv 2) pe_int (nomark _)) (pss_one (ps_set (i := 4) nd rfl (Or.inl rfl) (pe_tup (pa_cons pe_str (pa_cons (pe_call (ok_law_sides T) (hr.mono (by decide)) (by rfl) T.m_law_sides T.k_law_sides T.v_law_sides .nil pass0 (pa_cons (pv 0) (pa_cons (pv 1) (pa_cons pe_str pa_nil)))) pa_nil))))) (pss_one (ps_if (pt_cmpR op_eq (pv 2) pe_int (nomark _)) (pss_one (ps_set (i := 4) nd rfl (Or.inl rfl) (pe_tup (pa_cons pe_str (pa_cons (pe_call (ok_law_sides T) (hr.mono (by decide)) (by rfl) T.m_law_sides T.k_law_sides T.v_law_sides .nil pass0 (pa_cons (pv 0) (pa_cons (pv 1) (pa_cons pe_str pa_nil)))) pa_nil))))) (pss_cons (ps_par (i := 5) (j := 6) rfl nd rfl rfl (by decide) rfl rfl (pa_cons (pe_call (ok_law_operand T) (hr.mono (by decide)) (by rfl) T.m_law_operand T.k_law_operand T.v_law_operand .nil pass0 (pa_cons (pv 0) (pa_cons (pe_ix ix_list (pv 1) pe_int (fun _ _ => rfl)) pa_nil))) (pa_cons (pe_call (ok_law_operand T) (hr.mono (by decide)) (by rfl) T.m_law_operand T.k_law_operand T.v_law_operand .nil pass0 (pa_cons (pv 0) (pa_cons (pe_ix ix_list (pv 1) pe_int (fun _ _ => rfl)) pa_nil))) pa_nil)) (by rfl))
      (pss_cons (ps_set (i := 7) nd rfl (Or.inl rfl) (pe_call (ok_law_sides T) (hr.mono (by decide)) (by rfl) T.m_law_sides T.k_law_sides T.v_law_sides .nil pass0 (pa_cons (pv 0) (pa_cons (pv 1) (pa_cons pe_str pa_nil)))))
      (pss_cons (ps_setLc (i := 8) (own := [("_law_tree", 4)]) (g := gName 4) rfl nd rfl rfl (sw_true rfl rfl rfl (by decide +kernel)) (pi_tup (pe_slice sl_tupX (pe_call (ok_law_sides T) (hr.mono (by decide)) (by rfl) T.m_law_sides T.k_law_sides T.v_law_sides .nil pass0 (pa_cons (pv 0) (pa_cons (pv 1) (pa_cons pe_str pa_nil)))) po_none (po_some pe_int))) (blkOk_by (N := nm_law_holder) (sc := defScope st_law_holder) (by decide +kernel)) (fun _ _ _ _ _ => (pg_name (i := 4) nd rfl (Or.inl rfl))) (fun _ _ _ _ _ => (pts_one (pt_cmpR op_lt (pe_call (ok_law_size T 8) (hr.mono (by decide)) (by rfl) T.m_law_size T.k_law_size T.v_law_size .nil pass0 (pa_cons (pe_lst (pa_cons (pv 4) pa_nil)) pa_nil)) pe_int (nomark _)))) (fun _ _ _ _ _ => (pv 4)))
      (pss_one (ps_set (i := 4) nd rfl (Or.inl rfl) (pe_ifExp (pt_cmpR op_eq (pv 2) pe_int (nomark _)) (pe_tup (pa_cons pe_str (pa_cons (pv 5) (pa_cons (pv 6) (pa_cons (pv 7) (pa_cons (pe_callTy call_tuple_of (by rfl) T.b_tuple (by decide +kernel) (pa_cons (pv 8) pa_nil)) pa_nil)))))) (pe_tup (pa_cons pe_str (pa_cons (pv 5) (pa_cons (pv 6) (pa_cons (pe_callTy call_tuple_of (by rfl) T.b_tuple (by decide +kernel) (pa_cons (pv 8) pa_nil)) (pa_cons (pv 7) pa_nil)))))))))))))))
      (pss_cons (ps_set (i := 3) nd rfl (Or.inl rfl) (pe_call (ok_law_take T) (hr.mono (by decide)) (by rfl) T.m_law_take T.k_law_take T.v_law_take .nil pass0 (pa_cons (pv 0) (pa_cons pe_int pa_nil))))
      (pss_cons (ps_if (pt_cmpR op_eq (pv 3) pe_int (nomark _)) (pss_one (ps_ret (pe_tup (pa_cons pe_str (pa_cons (pe_tup (pa_cons (pv 4) pa_nil)) pa_nil))))) pss_nil)
      (pss_one (ps_ret (pe_ifExp (pt_cmpR op_eq (pv 3) pe_int (nomark _)) (pe_tup (pa_cons pe_str (pa_cons (pe_call (ok_law_operand T) (hr.mono (by decide)) (by rfl) T.m_law_operand T.k_law_operand T.v_law_operand .nil pass0 (pa_cons (pv 0) (pa_cons (pe_ix ix_list (pv 1) pe_int (fun _ _ => rfl)) pa_nil))) (pa_cons pe_str (pa_cons (pe_tup pa_nil) (pa_cons (pe_tup (pa_cons (pv 4) pa_nil)) pa_nil)))))) (pv 4)))))))), ?_⟩
    refine ⟨_, rfl, a, _, rfl, src, by decide, by decide, fun way H2 w0 w1 src2 kb2 => ?_⟩
    have hw2 := hw.mv src kb2
    -- the ends
    have fin0 : ∀ (p0 : Addr) (t0 : Tr) {H8 : Hp}, TrAt K H8 p0 t0 → Src H8 a → KeepBut a H H8 → 7 ≤ t0.k → lvT t0 ≤ 4 → amT t0 ≤ 37 → okT t0 = true → ∀ p1, H8 p1 = none → ∀ p2, (upd H8 p1 (.tup [.ref p0])) p2 = none → Q (.ref p2) (upd (upd H8 p1 (.tup [.ref p0])) p2 (.tup [.str "loop", .ref p1])) := by
      intro p0 t0 H8 tr0 src8 kb8 k0 lv0 am0 ok0 p1 n1 p2 n2
      have s1 := same_new (o := .tup [.ref p0]) n1
      have s2 := same_new (o := .tup [.str "loop", .ref p1]) n2
      have s12 := s1.trans s2
      refine q p2 (.loop [t0]) _ (.loop (ps := [p0]) upd_same (SqT.of (s2 _ _ upd_same)) (.cons (tr0.mv (KpT.of_same s12)) .nil)) (by show 7 ≤ 8; decide) ?_ ?_ ?_ (src8.same s12) (kb8.trans (KeepBut.of_same s12))
      · rw [lvT, lvB_cons, lvB_nil]
        omega
      · rw [amT, amB_cons, amB_nil]
        omega
      · rw [okT, okB_cons, okB_nil, ok0]
        rfl
    have fin1 : ∀ (p0 : Addr) (t0 : Tr) (H9 : Hp), TrAt K H9 p0 t0 → Src H9 a → KeepBut a H H9 → 7 ≤ t0.k → lvT t0 ≤ 4 → amT t0 ≤ 37 → okT t0 = true → ∀ o, OperT o → ∀ p1, H9 p1 = none → ∀ p2, (upd H9 p1 (.tup [])) p2 = none → ∀ p3, (upd (upd H9 p1 (.tup [])) p2 (.tup [.ref p0])) p3 = none → Q (.ref p3) (upd (upd (upd H9 p1 (.tup [])) p2 (.tup [.ref p0])) p3 (.tup [.str "if", .str o, .str "yes", .ref p1, .ref p2])) := by
      intro p0 t0 H9 tr0 src9 kb9 k0 lv0 am0 ok0 o ho p1 n1 p2 n2 p3 n3
      have s1 := same_new (o := .tup []) n1
      have s2 := same_new (o := .tup [.ref p0]) n2
      have s3 := same_new (o := .tup [.str "if", .str o, .str "yes", .ref p1, .ref p2]) n3
      have s13 := (s1.trans s2).trans s3
      have oy : OperT "yes" := oper_fixed "yes" (by simp)
      refine q p3 (.cond o "yes" [] [t0]) _ (.cond (ps := []) (qs := [p0]) upd_same ho oy (SqT.of (s3 _ _ (s2 _ _ upd_same))) (SqT.of (s3 _ _ upd_same)) .nil (.cons (tr0.mv (KpT.of_same s13)) .nil)) (by show 7 ≤ 7; decide) ?_ ?_ ?_ (src9.same s13) (kb9.trans (KeepBut.of_same s13))
      · rw [lvT, lvB_cons, lvB_nil]
        omega
      · rw [amT, amB_cons, amB_nil]
        omega
      · rw [okT, okB_cons, okB_nil, ok0]
        rfl
    have w' : way = 0 ∨ way = 1 ∨ way = 2 ∨ way = 3 := by omega
    rcases w' with rfl | rfl | hway
    · refine ⟨_, rfl, rfl, _, rfl, ?_⟩
      refine ⟨_, rfl, _, rfl, a, wl, "joined", rfl, .inr rfl, src2, hw2, fun pb us H3 bu am lu dr src3 kb3 => ⟨(by show 2 ≤ sizeLine; decide), fun p0 n0 => ?_⟩⟩
      have s4 := same_new (o := .tup [.str "joined", .ref pb]) n0
      obtain ⟨ps, sq1, tr1⟩ := bu.mv (KpT.of_same s4)
      obtain ⟨lu, ou, gu⟩ := drawn_ok dr
      have tr0 : TrAt K (upd H3 p0 (.tup [.str "joined", .ref pb])) p0 (.joined us) := .joined upd_same sq1 tr1
      have k0 : 7 ≤ (Tr.joined us).k := by show 7 ≤ 9; decide
      have lv0 : lvT (.joined us) ≤ 4 := by
        rw [lvT]
        omega
      have am0 : amT (.joined us) ≤ 37 := by
        rw [amT]
        omega
      have ok0 : okT (.joined us) = true := by
        rw [okT, ou, gu rfl]
        rfl
      have srcc := src3.same s4
      have kbc := (kb2.trans kb3).trans (KeepBut.of_same s4)
      have hwc := (hw2.mv src2 kb3).mv src3 (KeepBut.of_same s4)
      refine ⟨_, rfl, a, _, rfl, srcc, by decide, by decide, fun ag H8 g0 g1 src8 kb8 => ?_⟩
      have kp8 := srcc.kp kb8
      have hw8 := hwc.mv srcc kb8
      have kb08 := kbc.trans kb8
      have tr8 := tr0.mv kp8
      have g' : ag = 0 ∨ ag = 1 ∨ ag = 2 := by omega
      rcases g' with rfl | rfl | rfl
      · refine ⟨_, rfl, rfl, _, rfl, _, rfl, (by show 1 ≤ sizeLine; decide), fun p1 n1 => ⟨(by show 2 ≤ sizeLine; decide), fun p2 n2 => ?_⟩⟩
        exact fin0 p0 _ tr8 src8 kb08 k0 lv0 am0 ok0 p1 n1 p2 n2
      · refine ⟨_, rfl, rfl, _, rfl, ?_⟩
        refine ⟨_, rfl, rfl, _, rfl, ?_⟩
        obtain ⟨nm, gl, rm, zs, gs, rs, g1', g2, g3, g4, l1, l2, l3, l4, l5, l6, nz, ng, nr⟩ := hw8
        refine ⟨_, rfl, _, rfl, wl, _, _, _, rfl, rfl, SqL.of g1', atI_nat (j := 0) rfl, a, nm, zs, rfl, src8, g2, l2, nz, fun o H9 ho src9 kb9 => ⟨Nat.zero_le _, fun p1 n1 => ⟨_, rfl, (by show 1 ≤ sizeLine; decide), fun p2 n2 => ⟨(by show 5 ≤ sizeLine; decide), fun p3 n3 => ?_⟩⟩⟩⟩
        exact fin1 p0 _ H9 (tr8.mv (src8.kp kb9)) src9 (kb08.trans kb9) k0 lv0 am0 ok0 o ho p1 n1 p2 n2 p3 n3
      · refine ⟨_, rfl, rfl, _, rfl, ?_⟩
        refine ⟨_, rfl, rfl, _, rfl, ?_⟩
        exact ⟨_, rfl, q p0 _ H8 tr8 k0 (by omega) (by omega) ok0 src8 kb08⟩
    · refine ⟨_, rfl, rfl, _, rfl, ?_⟩
      refine ⟨_, rfl, rfl, _, rfl, ?_⟩
      refine ⟨_, rfl, _, rfl, a, wl, "loop", rfl, .inl rfl, src2, hw2, fun pb us H3 bu am lu dr src3 kb3 => ⟨(by show 2 ≤ sizeLine; decide), fun p0 n0 => ?_⟩⟩
      have s4 := same_new (o := .tup [.str "loop", .ref pb]) n0
      obtain ⟨ps, sq1, tr1⟩ := bu.mv (KpT.of_same s4)
      obtain ⟨lu, ou, gu⟩ := drawn_ok dr
      have tr0 : TrAt K (upd H3 p0 (.tup [.str "loop", .ref pb])) p0 (.loop us) := .loop upd_same sq1 tr1
      have k0 : 7 ≤ (Tr.loop us).k := by show 7 ≤ 8; decide
      have lv0 : lvT (.loop us) ≤ 4 := by
        rw [lvT]
        omega
      have am0 : amT (.loop us) ≤ 37 := by
        rw [amT]
        omega
      have ok0 : okT (.loop us) = true := by
        rw [okT, ou]
      have srcc := src3.same s4
      have kbc := (kb2.trans kb3).trans (KeepBut.of_same s4)
      have hwc := (hw2.mv src2 kb3).mv src3 (KeepBut.of_same s4)
      refine ⟨_, rfl, a, _, rfl, srcc, by decide, by decide, fun ag H8 g0 g1 src8 kb8 => ?_⟩
      have kp8 := srcc.kp kb8
      have hw8 := hwc.mv srcc kb8
      have kb08 := kbc.trans kb8
      have tr8 := tr0.mv kp8
      have g' : ag = 0 ∨ ag = 1 ∨ ag = 2 := by omega
      rcases g' with rfl | rfl | rfl
      · refine ⟨_, rfl, rfl, _, rfl, _, rfl, (by show 1 ≤ sizeLine; decide), fun p1 n1 => ⟨(by show 2 ≤ sizeLine; decide), fun p2 n2 => ?_⟩⟩
        exact fin0 p0 _ tr8 src8 kb08 k0 lv0 am0 ok0 p1 n1 p2 n2
      · refine ⟨_, rfl, rfl, _, rfl, ?_⟩
        refine ⟨_, rfl, rfl, _, rfl, ?_⟩
        obtain ⟨nm, gl, rm, zs, gs, rs, g1', g2, g3, g4, l1, l2, l3, l4, l5, l6, nz, ng, nr⟩ := hw8
        refine ⟨_, rfl, _, rfl, wl, _, _, _, rfl, rfl, SqL.of g1', atI_nat (j := 0) rfl, a, nm, zs, rfl, src8, g2, l2, nz, fun o H9 ho src9 kb9 => ⟨Nat.zero_le _, fun p1 n1 => ⟨_, rfl, (by show 1 ≤ sizeLine; decide), fun p2 n2 => ⟨(by show 5 ≤ sizeLine; decide), fun p3 n3 => ?_⟩⟩⟩⟩
        exact fin1 p0 _ H9 (tr8.mv (src8.kp kb9)) src9 (kb08.trans kb9) k0 lv0 am0 ok0 o ho p1 n1 p2 n2 p3 n3
      · refine ⟨_, rfl, rfl, _, rfl, ?_⟩
        refine ⟨_, rfl, rfl, _, rfl, ?_⟩
        exact ⟨_, rfl, q p0 _ H8 tr8 k0 (by omega) (by omega) ok0 src8 kb08⟩
    rcases hway with rfl | rfl
    · refine ⟨_, rfl, rfl, _, rfl, ?_⟩
      refine ⟨_, rfl, rfl, _, rfl, ?_⟩
      have hw2' := hw2
      obtain ⟨nm, gl, rm, zs, gs, rs, g1', g2, g3, g4, l1, l2, l3, l4, l5, l6, nz, ng, nr⟩ := hw2'
      refine ⟨_, rfl, _, rfl, wl, _, _, _, rfl, rfl, SqL.of g1', atI_nat (j := 0) rfl, a, nm, zs, rfl, src2, g2, l2, nz, fun o1 H3 ho1 src3 kb3 => ?_⟩
      have hw3 := hw2.mv src2 kb3
      have hnm3 := kb3 _ _ (ne_src src2 g2 l1) g2
      have hwl3 : H3 wl = some (.lst [.ref nm, .ref gl, .ref rm]) := kb3 _ _ (by
        obtain ⟨x, y, c, e, _⟩ := src2
        exact ne_of g1' e (by intro z; injection z with z; injection z with z; cases z)) g1'
      refine ⟨_, rfl, _, rfl, wl, _, _, _, rfl, rfl, SqL.of hwl3, atI_nat (j := 0) rfl, a, nm, zs, rfl, src3, hnm3, l2, nz, fun o2 H4 ho2 src4 kb4 => ⟨_, _, rfl, ?_⟩⟩
      have hw4 := hw3.mv src3 kb4
      refine ⟨_, rfl, _, rfl, a, wl, "loop", rfl, .inl rfl, src4, hw4, fun pb us H5 bu am lu dr src5 kb5 => ?_⟩
      have hw5 := hw4.mv src4 kb5
      obtain ⟨lvu, ou, _⟩ := drawn_ok dr
      refine ⟨_, rfl, _, rfl, a, wl, "loop", rfl, .inl rfl, src5, hw5, fun pc vs H6 bv am2 lu2 dr2 src6 kb6 => ?_⟩
      obtain ⟨pvs, sqv, trv⟩ := bv
      refine ⟨2, rfl, slX_ok sqv fun p7 H7 s7 h7 => ?_⟩
      obtain ⟨ci, cj, ce, c2⟩ := cut_two pvs
      rw [ce] at h7
      have tr7 := ((trv.drop ci).take cj).mv (KpT.of_same s7)
      have src7 := src6.same s7
      refine ⟨p7, rfl, ⟨_, h7⟩, fun D hD => ?_⟩
      have nDa : D ≠ a := src7.fresh hD
      refine lc_it (walk_tup (K := K) (a := p7) (xs := ((pvs.drop ci).take cj).map V.ref)) (fun i H8 => Same H7 H8 ∧ ∃ (qs : List Addr) (xs : List Tr), H8 D = some (.lst (qs.map V.ref)) ∧ TrsAt K H8 qs xs ∧ xs.length ≤ i ∧ (∀ t ∈ xs, t ∈ vs ∧ amT t ≤ 3)) ⟨same_new hD, [], [], upd_same, .nil, Nat.le_refl _, fun _ h => (List.not_mem_nil h).elim⟩ (fun i H8 _ h => (KpT.of_same h.1).sq h7) ?_ ?_
      · rintro i x H8 H9 hi ⟨s8, qs, xs, hd8, tr8, lx, mx⟩ ⟨rfl, hx⟩
        rw [List.getElem?_map] at hx
        obtain ⟨r, hr2, rfl⟩ := Option.map_eq_some_iff.mp hx
        obtain ⟨u, hu, tru⟩ := tr7.get hr2
        have um : u ∈ vs := List.mem_of_mem_drop (List.mem_of_mem_take (List.mem_of_getElem? hu))
        have du := dr2 u um
        have au := du.am
        have lvu := du.lv
        have tru8 := tru.mv (KpT.of_same s8)
        have lq := tr8.len
        have hil : i < 1000 := by
          have : i < (((pvs.drop ci).take cj).map V.ref).length := hi
          rw [List.length_map, List.length_take] at this
          omega
        refine ⟨rfl, _, rfl, (by show 1 ≤ sizeLine; decide), fun q1 n1 => ?_⟩
        have sn := same_new (o := .lst [.ref r]) n1
        refine ⟨q1, [r], [u], rfl, .inl (SqL.of upd_same), .cons (tru8.mv (KpT.of_same sn)) .nil, ?_, ?_, fun H10 s10 => ?_⟩
        · rw [lvB_cons, lvB_nil]
          omega
        · rw [amB_cons, amB_nil]
          omega
        have s810 := sn.trans s10
        refine ⟨_, _, rfl, rfl, _, rfl, ?_⟩
        refine ite2 (fun hlt => ?_) (fun hlt => ?_)
        · have hlt : decide (((amB [u] : Nat) : Int) < 4) = true := hlt
          have hlt := of_decide_eq_true hlt
          rw [amB_cons, amB_nil] at hlt
          have hd10 := s810 _ _ hd8
          refine ⟨_, rfl, _, hd10, ?_, ?_, qs ++ [r], xs ++ [u], ?_, ?_, ?_, ?_⟩
          · rw [List.length_map]
            exact lt5000 (by omega)
          · intro b o e
            rw [upd_ne (ne_of_none e hD)]
            exact s810 _ _ (s8 _ _ e)
          · rw [upd_same, List.map_append]
            rfl
          · have k2 := KpT.lst hd10 (KeepBut.upd D H10 (.lst (qs.map V.ref ++ [.ref r])))
            exact ((tr8.mv (KpT.of_same s810)).mv k2).app (.cons ((tru8.mv (KpT.of_same s810)).mv k2) .nil)
          · rw [List.length_append]
            show xs.length + 1 ≤ i + 1
            omega
          · intro t ht
            rcases List.mem_append.mp ht with ht | ht
            · exact mx t ht
            · rw [List.mem_singleton.mp ht]
              exact ⟨um, by omega⟩
        · exact ⟨s8.trans s810, qs, xs, s810 _ _ hd8, tr8.mv (KpT.of_same s810), by omega, mx⟩
      rintro H8 ⟨s8, qs, xs, hd8, tr8, lx, mx⟩
      rw [List.length_map, List.length_take] at lx
      have xam := amB_cap fun t ht => (mx t ht).2
      have xam : amB xs ≤ 2 * 3 := Nat.le_trans xam (Nat.mul_le_mul_right 3 (by omega))
      obtain ⟨lvx, ox, _⟩ := drawn_ok fun t ht => dr2 t (mx t ht).1
      have src8 := src7.same s8
      have bu8 := bu.mv ((src5.kp kb6).trans (KpT.of_same (s7.trans s8)))
      have kb28 := (((((kb2.trans kb3).trans kb4).trans kb5).trans kb6).trans (KeepBut.of_same (s7.trans s8)))
      have hw8 := ((hw5.mv src5 kb6).mv src6 (KeepBut.of_same (s7.trans s8)))
      refine ⟨_, rfl, rfl, _, rfl, _, rfl, _, rfl, _, rfl, _, rfl, D, _, rfl, .inl ⟨SqL.of hd8, fun p1 n1 => ⟨(by show 5 ≤ sizeLine; decide), fun p0 n0 => ?_⟩⟩⟩
      have s9 := same_new (o := .tup (qs.map V.ref)) n1
      have s10 := same_new (o := .tup [.str "if", .str o1, .str o2, .ref pb, .ref p1]) n0
      have s910 := s9.trans s10
      obtain ⟨ps, sq1, tr1⟩ := bu8.mv (KpT.of_same s910)
      have tr0 : TrAt K (upd (upd H8 p1 (.tup (qs.map V.ref))) p0 (.tup [.str "if", .str o1, .str o2, .ref pb, .ref p1])) p0 (.cond o1 o2 us xs) := (.cond upd_same ho1 ho2 sq1 (SqT.of (s10 _ _ upd_same)) tr1 (tr8.mv (KpT.of_same s910)))
      have k0 : 7 ≤ (Tr.cond o1 o2 us xs).k := by show 7 ≤ 7; decide
      have lv0 : lvT (.cond o1 o2 us xs) ≤ 4 := by
        rw [lvT]
        omega
      have am0 : amT (.cond o1 o2 us xs) ≤ 37 := by
        rw [amT]
        omega
      have ok0 : okT (.cond o1 o2 us xs) = true := by
        rw [okT, ou, ox]
        rfl
      have srcc := src8.same s910
      have kbc := kb28.trans (KeepBut.of_same s910)
      have hwc := hw8.mv src8 (KeepBut.of_same s910)
      refine ⟨_, rfl, a, _, rfl, srcc, by decide, by decide, fun ag H8 g0 g1 src8 kb8 => ?_⟩
      have kp8 := srcc.kp kb8
      have hw8 := hwc.mv srcc kb8
      have kb08 := kbc.trans kb8
      have tr8 := tr0.mv kp8
      have g' : ag = 0 ∨ ag = 1 ∨ ag = 2 := by omega
      rcases g' with rfl | rfl | rfl
      · refine ⟨_, rfl, rfl, _, rfl, _, rfl, (by show 1 ≤ sizeLine; decide), fun p1 n1 => ⟨(by show 2 ≤ sizeLine; decide), fun p2 n2 => ?_⟩⟩
        exact fin0 p0 _ tr8 src8 kb08 k0 lv0 am0 ok0 p1 n1 p2 n2
      · refine ⟨_, rfl, rfl, _, rfl, ?_⟩
        refine ⟨_, rfl, rfl, _, rfl, ?_⟩
        obtain ⟨nm, gl, rm, zs, gs, rs, g1', g2, g3, g4, l1, l2, l3, l4, l5, l6, nz, ng, nr⟩ := hw8
        refine ⟨_, rfl, _, rfl, wl, _, _, _, rfl, rfl, SqL.of g1', atI_nat (j := 0) rfl, a, nm, zs, rfl, src8, g2, l2, nz, fun o H9 ho src9 kb9 => ⟨Nat.zero_le _, fun p1 n1 => ⟨_, rfl, (by show 1 ≤ sizeLine; decide), fun p2 n2 => ⟨(by show 5 ≤ sizeLine; decide), fun p3 n3 => ?_⟩⟩⟩⟩
        exact fin1 p0 _ H9 (tr8.mv (src8.kp kb9)) src9 (kb08.trans kb9) k0 lv0 am0 ok0 o ho p1 n1 p2 n2 p3 n3
      · refine ⟨_, rfl, rfl, _, rfl, ?_⟩
        refine ⟨_, rfl, rfl, _, rfl, ?_⟩
        exact ⟨_, rfl, q p0 _ H8 tr8 k0 (by omega) (by omega) ok0 src8 kb08⟩
    · refine ⟨_, rfl, rfl, _, rfl, ?_⟩
      refine ⟨_, rfl, rfl, _, rfl, ?_⟩
      have hw2' := hw2
      obtain ⟨nm, gl, rm, zs, gs, rs, g1', g2, g3, g4, l1, l2, l3, l4, l5, l6, nz, ng, nr⟩ := hw2'
      refine ⟨_, rfl, _, rfl, wl, _, _, _, rfl, rfl, SqL.of g1', atI_nat (j := 0) rfl, a, nm, zs, rfl, src2, g2, l2, nz, fun o1 H3 ho1 src3 kb3 => ?_⟩
      have hw3 := hw2.mv src2 kb3
      have hnm3 := kb3 _ _ (ne_src src2 g2 l1) g2
      have hwl3 : H3 wl = some (.lst [.ref nm, .ref gl, .ref rm]) := kb3 _ _ (by
        obtain ⟨x, y, c, e, _⟩ := src2
        exact ne_of g1' e (by intro z; injection z with z; injection z with z; cases z)) g1'
      refine ⟨_, rfl, _, rfl, wl, _, _, _, rfl, rfl, SqL.of hwl3, atI_nat (j := 0) rfl, a, nm, zs, rfl, src3, hnm3, l2, nz, fun o2 H4 ho2 src4 kb4 => ⟨_, _, rfl, ?_⟩⟩
      have hw4 := hw3.mv src3 kb4
      refine ⟨_, rfl, _, rfl, a, wl, "loop", rfl, .inl rfl, src4, hw4, fun pb us H5 bu am lu dr src5 kb5 => ?_⟩
      have hw5 := hw4.mv src4 kb5
      obtain ⟨lvu, ou, _⟩ := drawn_ok dr
      refine ⟨_, rfl, _, rfl, a, wl, "loop", rfl, .inl rfl, src5, hw5, fun pc vs H6 bv am2 lu2 dr2 src6 kb6 => ?_⟩
      obtain ⟨pvs, sqv, trv⟩ := bv
      refine ⟨2, rfl, slX_ok sqv fun p7 H7 s7 h7 => ?_⟩
      obtain ⟨ci, cj, ce, c2⟩ := cut_two pvs
      rw [ce] at h7
      have tr7 := ((trv.drop ci).take cj).mv (KpT.of_same s7)
      have src7 := src6.same s7
      refine ⟨p7, rfl, ⟨_, h7⟩, fun D hD => ?_⟩
      have nDa : D ≠ a := src7.fresh hD
      refine lc_it (walk_tup (K := K) (a := p7) (xs := ((pvs.drop ci).take cj).map V.ref)) (fun i H8 => Same H7 H8 ∧ ∃ (qs : List Addr) (xs : List Tr), H8 D = some (.lst (qs.map V.ref)) ∧ TrsAt K H8 qs xs ∧ xs.length ≤ i ∧ (∀ t ∈ xs, t ∈ vs ∧ amT t ≤ 3)) ⟨same_new hD, [], [], upd_same, .nil, Nat.le_refl _, fun _ h => (List.not_mem_nil h).elim⟩ (fun i H8 _ h => (KpT.of_same h.1).sq h7) ?_ ?_
      · rintro i x H8 H9 hi ⟨s8, qs, xs, hd8, tr8, lx, mx⟩ ⟨rfl, hx⟩
        rw [List.getElem?_map] at hx
        obtain ⟨r, hr2, rfl⟩ := Option.map_eq_some_iff.mp hx
        obtain ⟨u, hu, tru⟩ := tr7.get hr2
        have um : u ∈ vs := List.mem_of_mem_drop (List.mem_of_mem_take (List.mem_of_getElem? hu))
        have du := dr2 u um
        have au := du.am
        have lvu := du.lv
        have tru8 := tru.mv (KpT.of_same s8)
        have lq := tr8.len
        have hil : i < 1000 := by
          have : i < (((pvs.drop ci).take cj).map V.ref).length := hi
          rw [List.length_map, List.length_take] at this
          omega
        refine ⟨rfl, _, rfl, (by show 1 ≤ sizeLine; decide), fun q1 n1 => ?_⟩
        have sn := same_new (o := .lst [.ref r]) n1
        refine ⟨q1, [r], [u], rfl, .inl (SqL.of upd_same), .cons (tru8.mv (KpT.of_same sn)) .nil, ?_, ?_, fun H10 s10 => ?_⟩
        · rw [lvB_cons, lvB_nil]
          omega
        · rw [amB_cons, amB_nil]
          omega
        have s810 := sn.trans s10
        refine ⟨_, _, rfl, rfl, _, rfl, ?_⟩
        refine ite2 (fun hlt => ?_) (fun hlt => ?_)
        · have hlt : decide (((amB [u] : Nat) : Int) < 4) = true := hlt
          have hlt := of_decide_eq_true hlt
          rw [amB_cons, amB_nil] at hlt
          have hd10 := s810 _ _ hd8
          refine ⟨_, rfl, _, hd10, ?_, ?_, qs ++ [r], xs ++ [u], ?_, ?_, ?_, ?_⟩
          · rw [List.length_map]
            exact lt5000 (by omega)
          · intro b o e
            rw [upd_ne (ne_of_none e hD)]
            exact s810 _ _ (s8 _ _ e)
          · rw [upd_same, List.map_append]
            rfl
          · have k2 := KpT.lst hd10 (KeepBut.upd D H10 (.lst (qs.map V.ref ++ [.ref r])))
            exact ((tr8.mv (KpT.of_same s810)).mv k2).app (.cons ((tru8.mv (KpT.of_same s810)).mv k2) .nil)
          · rw [List.length_append]
            show xs.length + 1 ≤ i + 1
            omega
          · intro t ht
            rcases List.mem_append.mp ht with ht | ht
            · exact mx t ht
            · rw [List.mem_singleton.mp ht]
              exact ⟨um, by omega⟩
        · exact ⟨s8.trans s810, qs, xs, s810 _ _ hd8, tr8.mv (KpT.of_same s810), by omega, mx⟩
      rintro H8 ⟨s8, qs, xs, hd8, tr8, lx, mx⟩
      rw [List.length_map, List.length_take] at lx
      have xam := amB_cap fun t ht => (mx t ht).2
      have xam : amB xs ≤ 2 * 3 := Nat.le_trans xam (Nat.mul_le_mul_right 3 (by omega))
      obtain ⟨lvx, ox, _⟩ := drawn_ok fun t ht => dr2 t (mx t ht).1
      have src8 := src7.same s8
      have bu8 := bu.mv ((src5.kp kb6).trans (KpT.of_same (s7.trans s8)))
      have kb28 := (((((kb2.trans kb3).trans kb4).trans kb5).trans kb6).trans (KeepBut.of_same (s7.trans s8)))
      have hw8 := ((hw5.mv src5 kb6).mv src6 (KeepBut.of_same (s7.trans s8)))
      refine ⟨_, rfl, rfl, _, rfl, _, rfl, _, rfl, _, rfl, D, _, rfl, .inl ⟨SqL.of hd8, fun p1 n1 => ⟨_, rfl, (by show 5 ≤ sizeLine; decide), fun p0 n0 => ?_⟩⟩⟩
      have s9 := same_new (o := .tup (qs.map V.ref)) n1
      have s10 := same_new (o := .tup [.str "if", .str o1, .str o2, .ref p1, .ref pb]) n0
      have s910 := s9.trans s10
      obtain ⟨ps, sq1, tr1⟩ := bu8.mv (KpT.of_same s910)
      have tr0 : TrAt K (upd (upd H8 p1 (.tup (qs.map V.ref))) p0 (.tup [.str "if", .str o1, .str o2, .ref p1, .ref pb])) p0 (.cond o1 o2 xs us) := (.cond upd_same ho1 ho2 (SqT.of (s10 _ _ upd_same)) sq1 (tr8.mv (KpT.of_same s910)) tr1)
      have k0 : 7 ≤ (Tr.cond o1 o2 xs us).k := by show 7 ≤ 7; decide
      have lv0 : lvT (.cond o1 o2 xs us) ≤ 4 := by
        rw [lvT]
        omega
      have am0 : amT (.cond o1 o2 xs us) ≤ 37 := by
        rw [amT]
        omega
      have ok0 : okT (.cond o1 o2 xs us) = true := by
        rw [okT, ou, ox]
        rfl
      have srcc := src8.same s910
      have kbc := kb28.trans (KeepBut.of_same s910)
      have hwc := hw8.mv src8 (KeepBut.of_same s910)
      refine ⟨_, rfl, a, _, rfl, srcc, by decide, by decide, fun ag H8 g0 g1 src8 kb8 => ?_⟩
      have kp8 := srcc.kp kb8
      have hw8 := hwc.mv srcc kb8
      have kb08 := kbc.trans kb8
      have tr8 := tr0.mv kp8
      have g' : ag = 0 ∨ ag = 1 ∨ ag = 2 := by omega
      rcases g' with rfl | rfl | rfl
      · refine ⟨_, rfl, rfl, _, rfl, _, rfl, (by show 1 ≤ sizeLine; decide), fun p1 n1 => ⟨(by show 2 ≤ sizeLine; decide), fun p2 n2 => ?_⟩⟩
        exact fin0 p0 _ tr8 src8 kb08 k0 lv0 am0 ok0 p1 n1 p2 n2
      · refine ⟨_, rfl, rfl, _, rfl, ?_⟩
        refine ⟨_, rfl, rfl, _, rfl, ?_⟩
        obtain ⟨nm, gl, rm, zs, gs, rs, g1', g2, g3, g4, l1, l2, l3, l4, l5, l6, nz, ng, nr⟩ := hw8
        refine ⟨_, rfl, _, rfl, wl, _, _, _, rfl, rfl, SqL.of g1', atI_nat (j := 0) rfl, a, nm, zs, rfl, src8, g2, l2, nz, fun o H9 ho src9 kb9 => ⟨Nat.zero_le _, fun p1 n1 => ⟨_, rfl, (by show 1 ≤ sizeLine; decide), fun p2 n2 => ⟨(by show 5 ≤ sizeLine; decide), fun p3 n3 => ?_⟩⟩⟩⟩
        exact fin1 p0 _ H9 (tr8.mv (src8.kp kb9)) src9 (kb08.trans kb9) k0 lv0 am0 ok0 o ho p1 n1 p2 n2 p3 n3
      · refine ⟨_, rfl, rfl, _, rfl, ?_⟩
        refine ⟨_, rfl, rfl, _, rfl, ?_⟩
        exact ⟨_, rfl, q p0 _ H8 tr8 k0 (by omega) (by omega) ok0 src8 kb08⟩
end
end K04
set_option Elab.async false
set_option linter.all false
set_option maxRecDepth 100000
set_option maxHeartbeats 4000000
namespace K04
open PySem PySem.Spec PyProof.Rows L2 Mo
theorem sub_le (b : List Tr) (i j : Nat) : amB ((b.drop i).take j) ≤ amB b ∧ lvB ((b.drop i).take j) ≤ lvB b ∧ (okB b = true → okB ((b.drop i).take j) = true) ∧ (goB b = true → goB ((b.drop i).take j) = true) := by
  have m : ∀ t ∈ (b.drop i).take j, t ∈ b := fun t ht => List.mem_of_mem_drop (List.mem_of_mem_take ht)
  refine ⟨?_, lvB_cap fun t ht => lvB_mem (m t ht), fun h => ?_, fun h => ?_⟩
  · have h1 : amB b = amB (b.take i) + amB (b.drop i) := by rw [← amB_app, List.take_append_drop]
    have h2 : amB (b.drop i) = amB ((b.drop i).take j) + amB ((b.drop i).drop j) := by rw [← amB_app, List.take_append_drop]
    omega
  · rw [okB_all] at h ⊢
    exact List.all_eq_true.mpr fun t ht => List.all_eq_true.mp h t (m t ht)
  · rw [goB_all] at h ⊢
    exact List.all_eq_true.mpr fun t ht => List.all_eq_true.mp h t (m t ht)
theorem okB_app (a b : List Tr) : okB (a ++ b) = (okB a && okB b) := by rw [okB_all, okB_all, okB_all, List.all_append]
section
variable {w : World} {K : PySem.W.Frag} {mg : Str → Option Value} {base : Heap} {A : Ads}
theorem noPart {σ : L2.St} {H : Hp} {Q : Option Int → Hp → Prop} (h : Q none H) : tNoPart σ H Q := h
def spBent (K : PySem.W.Frag) : Sp := fun vs H Q _ => ∃ (a p : Addr) (t : Tr), vs = [.ref a, .ref p] ∧ Src H a ∧ TrAt K H p t ∧ 7 ≤ t.k ∧ lvT t ≤ 5 ∧ amT t ≤ 40 ∧ okT t = true ∧
  ∀ (p' : Addr) (u : Tr) (H' : Hp), TrAt K H' p' u → 7 ≤ u.k → lvT u ≤ 6 → amT u ≤ 42 → okT u = true → Src H' a → KeepBut a H H' → Q (.ref p') H'
theorem ok_law_bent (T : Txt K mg A) : FnOk P w K mg base CX0 2 A.a_law_bent A.d_law_bent ["_law_source_here", "_law_tree"] (spBent K) := by
  have nd := sc_law_bent.nd
  refine T.f_law_bent.ok sc_law_bent (fun vs H Q E h => ?_) (fun cdv A' outer s H vs Q E hr h => ?_)
  · obtain ⟨a, p, t, rfl, _⟩ := h
    rfl
  · obtain ⟨a, p, t, rfl, src, trt, hk, h5, h40, hok, q⟩ := h
    refine ⟨_, (pss_cons (ps_par3 (i := 2) (j := 3) (l := 4) rfl nd rfl rfl rfl (by decide) (by decide) (by decide) rfl rfl rfl (pa_cons (pe_call (ok_law_take T) (hr.mono (by decide)) (by rfl) T.m_law_take T.k_law_take T.v_law_take .nil pass0 (pa_cons (pv 0) (pa_cons pe_int pa_nil))) (pa_cons (pe_ifExp (pt_cmpR op_ne (pe_ix ix_tup (pv 1) pe_int (fun _ _ => rfl)) pe_str (nomark _)) (pe_ix ix_tup (pv 1) pe_int (fun _ _ => rfl)) (pe_ix ix_tup (pv 1) pe_int (fun _ _ => rfl))) (pa_cons (pe_tup pa_nil) pa_nil))) (by rfl))
      (pss_cons (ps_set (i := 5) nd rfl (Or.inl rfl) (pe_ifExp (pt_cmpR op_ne (pe_ix ix_tup (pv 1) pe_int (fun _ _ => rfl)) pe_str (nomark _)) (pe_tup (pa_cons pe_str pa_nil)) (pe_tup (pa_cons pe_str (pa_cons pe_str (pa_cons pe_str pa_nil))))))
      (pss_cons (ps_if (pt_cmpR op_eq (pe_ix ix_tup (pv 1) pe_int (fun _ _ => rfl)) pe_str (nomark _)) (pss_cons (ps_set (i := 4) nd rfl (Or.inl rfl) (pe_ix ix_tup (pv 1) pe_int (fun _ _ => rfl)))
      (pss_cons (ps_asg (pe_ix ix_list (pe_lst (pa_cons (pe_tup (pa_cons (pv 3) (pa_cons (pe_op op_catX (pv 4) (pe_tup (pa_cons (pv 5) pa_nil))) pa_nil))) (pa_cons (pe_tup (pa_cons (pv 4) (pa_cons (pv 3) pa_nil))) (pa_cons (pe_tup (pa_cons (pe_slice sl_tupX (pv 3) po_none (po_some (pe_un un_neg pe_int))) (pa_cons (pv 4) pa_nil))) (pa_cons (pe_tup (pa_cons (pv 3) (pa_cons (pe_tup pa_nil) pa_nil))) (pa_cons (pe_tup (pa_cons (pv 3) (pa_cons (pv 4) pa_nil))) pa_nil)))))) (pv 2) (fun _ _ => rfl)) (pg_tup rfl (pgs_cons (pg_name (i := 3) nd rfl (Or.inl rfl)) (pgs_cons (pg_name (i := 4) nd rfl (Or.inl rfl)) pgs_nil))))
      (pss_one (ps_ret (pe_tup (pa_cons pe_str (pa_cons (pe_ix ix_tup (pv 1) pe_int (fun _ _ => rfl)) (pa_cons (pe_ix ix_tup (pv 1) pe_int (fun _ _ => rfl)) (pa_cons (pv 3) (pa_cons (pv 4) pa_nil)))))))))) pss_nil)
      (pss_cons (ps_set (i := 3) nd rfl (Or.inl rfl) (pe_ix ix_list (pe_lst (pa_cons (pe_op op_catX (pv 3) (pe_tup (pa_cons (pv 5) pa_nil))) (pa_cons (pe_op op_catX (pe_tup (pa_cons (pv 5) pa_nil)) (pv 3)) (pa_cons (pe_slice sl_tupX (pv 3) po_none (po_some (pe_un un_neg pe_int))) (pa_cons (pe_slice sl_tupX (pv 3) (po_some pe_int) po_none) (pa_cons (pe_tup (pa_cons (pe_tup (pa_cons pe_str (pa_cons pe_str (pa_cons pe_str (pa_cons (pv 3) (pa_cons (pe_tup pa_nil) pa_nil)))))) pa_nil)) pa_nil)))))) (pv 2) (fun _ _ => rfl)))
      (pss_one (ps_ret (pe_tup (pa_cons (pe_ix ix_tup (pv 1) pe_int (fun _ _ => rfl)) (pa_cons (pv 3) pa_nil))))))))), ?_⟩
    refine ⟨_, rfl, a, _, rfl, src, by decide, by decide, fun way H2 w0 w1 src2 kb2 => ?_⟩
    have trt2 := trt.mv (src.kp kb2)
    have w' : way = 0 ∨ way = 1 ∨ way = 2 ∨ way = 3 ∨ way = 4 := by omega
    cases trt2 with
    | one h o => cases o <;> exact absurd (show 7 ≤ _ from hk) (by show ¬ 7 ≤ (_ : Nat); simp [Tr.k])
    | @cond _ pb pe l r b e ps qs hp hl hr2 hb he tb te =>
      have hq : SqT K H2 p [.str "if", .str l, .str r, .ref pb, .ref pe] := SqT.of hp
      have a1 : amT (.cond l r b e) = 1 + (amB b + amB e) := by rw [amT]
      have a2 : lvT (.cond l r b e) = 1 + max (lvB b) (lvB e) := by rw [lvT]
      have a3 : okB b = true ∧ okB e = true := by
        rw [okT, Bool.and_eq_true] at hok
        exact hok
      refine ⟨_, rfl, p, _, _, _, rfl, rfl, hq, atI_nat (j := 0) rfl, rfl, _, rfl, ?_⟩
      refine ⟨_, rfl, p, _, _, _, rfl, rfl, hq, atI_nat (j := 3) rfl, Nat.zero_le _, fun p1 n1 => ⟨_, _, _, rfl, ?_⟩⟩
      have s1 := same_new (o := .tup []) n1
      have hq1 := (KpT.of_same s1).sq hq
      refine ⟨_, rfl, p, _, _, _, rfl, rfl, hq1, atI_nat (j := 0) rfl, rfl, _, rfl, ?_⟩
      refine ⟨(by show 1 ≤ sizeLine; decide), fun pm nm => ?_⟩
      have s2 := s1.trans (same_new (o := .tup [.str "leave"]) nm)
      have hq2 := (KpT.of_same s2).sq hq
      refine ⟨_, rfl, p, _, _, _, rfl, rfl, hq2, atI_nat (j := 0) rfl, rfl, _, rfl, ?_⟩
      refine ⟨_, rfl, p, _, _, _, rfl, rfl, hq2, atI_nat (j := 4) rfl, ?_⟩
      -- the five pairs
      refine ⟨_, rfl, _, rfl, _, rfl, (by show 1 ≤ sizeLine; decide), fun p3 n3 => catX_ok ((KpT.of_same (s2.trans (same_new (o := .tup [.ref pm]) n3))).sq he) (SqT.of upd_same) ?_ fun pc H4 s4 hc => ?_⟩
      · have := te.len
        have := amB_len e
        rw [List.length_map]
        exact len5000 (by show qs.length + 1 ≤ 5000; omega)
      have s24 := (s2.trans (same_new (o := .tup [.ref pm]) n3)).trans s4
      have sm4 := (same_new (o := .tup [.ref pm]) n3).trans s4
      refine ⟨(by show 2 ≤ sizeLine; decide), fun p5 n5 => ⟨_, rfl, _, rfl, (by show 2 ≤ sizeLine; decide), fun p6 n6 => ⟨_, rfl, 1, rfl, -1, rfl, ?_⟩⟩⟩
      have t5 := same_new (o := .tup [.ref pb, .ref pc]) n5
      have t6 := same_new (o := .tup [.ref pe, .ref pb]) n6
      refine slX_ok ((KpT.of_same ((s24.trans t5).trans t6)).sq hb) fun psl H7 s7 h7 => ?_
      obtain ⟨ci, cj, ce⟩ := cut_refs ps none (some (-1))
      rw [ce] at h7
      refine ⟨_, rfl, (by show 2 ≤ sizeLine; decide), fun p7 n7 => ⟨_, rfl, Nat.zero_le _, fun p8 n8 => ⟨(by show 2 ≤ sizeLine; decide), fun p9 n9 => ⟨_, rfl, _, rfl, (by show 2 ≤ sizeLine; decide), fun p10 n10 => ⟨(by show 5 ≤ sizeLine; decide), fun pl npl => ?_⟩⟩⟩⟩⟩
      have t7 := same_new (o := .tup [.ref psl, .ref pe]) n7
      have t8 := same_new (o := .tup []) n8
      have t9 := same_new (o := .tup [.ref pb, .ref p8]) n9
      have t10 := same_new (o := .tup [.ref pb, .ref pe]) n10
      have tl := same_new (o := .lst [.ref p5, .ref p6, .ref p7, .ref p9, .ref p10]) npl
      have u9 := t10.trans tl
      have u8 := t9.trans u9
      have u7 := t8.trans u8
      have u6 := (s7.trans t7).trans u7
      have u5 := t6.trans u6
      have u4 := t5.trans u5
      have u0 := s24.trans u4
      have bB : BodyAt K _ pb b := ⟨ps, (KpT.of_same u0).sq hb, tb.mv (KpT.of_same u0)⟩
      have bE : BodyAt K _ pe e := ⟨qs, (KpT.of_same u0).sq he, te.mv (KpT.of_same u0)⟩
      have lm : TrAt K _ pm (.one 5 ["leave"] "leave") := .one ((sm4.trans u4) _ _ upd_same) .leave
      have bC : BodyAt K _ pc (e ++ [.one 5 ["leave"] "leave"]) := ⟨qs ++ [pm], by rw [List.map_append]; exact (KpT.of_same u4).sq hc, (te.mv (KpT.of_same u0)).app (.cons lm .nil)⟩
      have bS : BodyAt K _ psl ((b.drop ci).take cj) := ⟨_, (KpT.of_same (t7.trans u7)).sq h7, ((tb.drop ci).take cj).mv (KpT.of_same u0)⟩
      have bN : BodyAt K _ p8 [] := ⟨[], SqT.of (u8 _ _ upd_same), .nil⟩
      have hqn := (KpT.of_same u0).sq hq
      have fin : ∀ {Hn : Hp}, Same H2 Hn → ∀ (x y : Addr) (b1 e1 : List Tr), BodyAt K Hn x b1 → BodyAt K Hn y e1 → okB b1 = true → okB e1 = true → amB b1 + amB e1 ≤ 41 → lvB b1 ≤ 5 → lvB e1 ≤ 5 → ∀ z, Hn z = none → Q (.ref z) (upd Hn z (.tup [.str "if", .str l, .str r, .ref x, .ref y])) := by
        intro Hn un x y b1 e1 hx hy ok1 ok2 am lv1 lv2 z nz
        have sz := same_new (o := .tup [.str "if", .str l, .str r, .ref x, .ref y]) nz
        obtain ⟨xs, sqx, trx⟩ := hx.mv (KpT.of_same sz)
        obtain ⟨ys, sqy, tr_y⟩ := hy.mv (KpT.of_same sz)
        refine q z (.cond l r b1 e1) _ (.cond upd_same hl hr2 sqx sqy trx tr_y) (by show 7 ≤ 7; decide) ?_ ?_ ?_ (src2.same (un.trans sz)) (kb2.trans (KeepBut.of_same (un.trans sz)))
        · rw [lvT]
          omega
        · rw [amT]
          omega
        · rw [okT, ok1, ok2]
          rfl
      obtain ⟨c1, c2, c3, _⟩ := sub_le b ci cj
      rcases w' with rfl | rfl | rfl | rfl | rfl
      · refine ⟨_, rfl, pl, _, _, _, rfl, rfl, SqL.of upd_same, atI_nat (j := 0) rfl, p5, _, rfl, SqT.of (u5 _ _ upd_same), rfl, _, _, rfl, _, _, rfl, rfl, ?_⟩
        refine ⟨_, rfl, p, _, _, _, rfl, rfl, hqn, atI_nat (j := 1) rfl, _, rfl, p, _, _, _, rfl, rfl, hqn, atI_nat (j := 2) rfl, _, rfl, _, rfl, (by show 5 ≤ sizeLine; decide), fun z nz => ?_⟩
        refine fin u0 pb pc (b) (e ++ [Tr.one 5 ["leave"] "leave"]) bB bC a3.1 (by rw [okB_app, okB_cons, okB_nil, okT, a3.2]; rfl) ?_ ?_ ?_ z nz
        · rw [amB_app, amB_cons, amB_nil, amT]
          omega
        · omega
        · rw [lvB_app, lvB_cons, lvB_nil, lvT]
          omega
      · refine ⟨_, rfl, pl, _, _, _, rfl, rfl, SqL.of upd_same, atI_nat (j := 1) rfl, p6, _, rfl, SqT.of (u6 _ _ upd_same), rfl, _, _, rfl, _, _, rfl, rfl, ?_⟩
        refine ⟨_, rfl, p, _, _, _, rfl, rfl, hqn, atI_nat (j := 1) rfl, _, rfl, p, _, _, _, rfl, rfl, hqn, atI_nat (j := 2) rfl, _, rfl, _, rfl, (by show 5 ≤ sizeLine; decide), fun z nz => ?_⟩
        refine fin u0 pe pb (e) (b) bE bB a3.2 a3.1 ?_ ?_ ?_ z nz
        · first | omega | (rw [amB_nil]; omega)
        · first | omega | (rw [lvB_nil]; omega)
        · first | omega | (rw [lvB_nil]; omega)
      · refine ⟨_, rfl, pl, _, _, _, rfl, rfl, SqL.of upd_same, atI_nat (j := 2) rfl, p7, _, rfl, SqT.of (u7 _ _ upd_same), rfl, _, _, rfl, _, _, rfl, rfl, ?_⟩
        refine ⟨_, rfl, p, _, _, _, rfl, rfl, hqn, atI_nat (j := 1) rfl, _, rfl, p, _, _, _, rfl, rfl, hqn, atI_nat (j := 2) rfl, _, rfl, _, rfl, (by show 5 ≤ sizeLine; decide), fun z nz => ?_⟩
        refine fin u0 psl pe ((b.drop ci).take cj) (e) bS bE (c3 a3.1) a3.2 ?_ ?_ ?_ z nz
        · first | omega | (rw [amB_nil]; omega)
        · first | omega | (rw [lvB_nil]; omega)
        · first | omega | (rw [lvB_nil]; omega)
      · refine ⟨_, rfl, pl, _, _, _, rfl, rfl, SqL.of upd_same, atI_nat (j := 3) rfl, p9, _, rfl, SqT.of (u9 _ _ upd_same), rfl, _, _, rfl, _, _, rfl, rfl, ?_⟩
        refine ⟨_, rfl, p, _, _, _, rfl, rfl, hqn, atI_nat (j := 1) rfl, _, rfl, p, _, _, _, rfl, rfl, hqn, atI_nat (j := 2) rfl, _, rfl, _, rfl, (by show 5 ≤ sizeLine; decide), fun z nz => ?_⟩
        refine fin u0 pb p8 (b) ([]) bB bN a3.1 okB_nil ?_ ?_ ?_ z nz
        · first | omega | (rw [amB_nil]; omega)
        · first | omega | (rw [lvB_nil]; omega)
        · first | omega | (rw [lvB_nil]; omega)
      · refine ⟨_, rfl, pl, _, _, _, rfl, rfl, SqL.of upd_same, atI_nat (j := 4) rfl, p10, _, rfl, SqT.of (tl _ _ upd_same), rfl, _, _, rfl, _, _, rfl, rfl, ?_⟩
        refine ⟨_, rfl, p, _, _, _, rfl, rfl, hqn, atI_nat (j := 1) rfl, _, rfl, p, _, _, _, rfl, rfl, hqn, atI_nat (j := 2) rfl, _, rfl, _, rfl, (by show 5 ≤ sizeLine; decide), fun z nz => ?_⟩
        refine fin u0 pb pe (b) (e) bB bE a3.1 a3.2 ?_ ?_ ?_ z nz
        · first | omega | (rw [amB_nil]; omega)
        · first | omega | (rw [lvB_nil]; omega)
        · first | omega | (rw [lvB_nil]; omega)
    | @loop _ pb b ps hp hb tb =>
      have hq : SqT K H2 p [.str "loop", .ref pb] := SqT.of hp
      have a1 : amT (.loop b) = 1 + (amB b + 0) := by rw [amT]
      have a2 : lvT (.loop b) = 1 + max (lvB b) 0 := by rw [lvT]
      have a3 : True ∧ okB b = true := by
        rw [okT] at hok
        exact ⟨trivial, hok⟩
      refine ⟨_, rfl, p, _, _, _, rfl, rfl, hq, atI_nat (j := 0) rfl, rfl, _, rfl, ?_⟩
      refine ⟨_, rfl, p, _, _, _, rfl, rfl, hq, atI_nat (j := 1) rfl, Nat.zero_le _, fun p1 n1 => ⟨_, _, _, rfl, ?_⟩⟩
      have s1 := same_new (o := .tup []) n1
      have hq1 := (KpT.of_same s1).sq hq
      refine ⟨_, rfl, p, _, _, _, rfl, rfl, hq1, atI_nat (j := 0) rfl, rfl, _, rfl, ?_⟩
      refine ⟨(by show 1 ≤ sizeLine; decide), fun pm nm => ?_⟩
      have s2 := s1.trans (same_new (o := .tup [.str "leave"]) nm)
      have hq2 := (KpT.of_same s2).sq hq
      refine ⟨_, rfl, p, _, _, _, rfl, rfl, hq2, atI_nat (j := 0) rfl, rfl, _, rfl, ?_⟩
      have lb := tb.len
      have lb2 := amB_len b
      -- the five bodies
      refine ⟨_, rfl, _, rfl, (by show 1 ≤ sizeLine; decide), fun p3 n3 => catX_ok ((KpT.of_same (s2.trans (same_new (o := .tup [.ref pm]) n3))).sq hb) (SqT.of upd_same) (by rw [List.length_map]; exact len5000 (by show ps.length + 1 ≤ 5000; omega)) fun pc H4 s4 hc => ?_⟩
      have s24 := (s2.trans (same_new (o := .tup [.ref pm]) n3)).trans s4
      have sm4 := (same_new (o := .tup [.ref pm]) n3).trans s4
      refine ⟨_, rfl, (by show 1 ≤ sizeLine; decide), fun p5 n5 => ⟨_, rfl, catX_ok (SqT.of upd_same) ((KpT.of_same (s24.trans (same_new (o := .tup [.ref pm]) n5))).sq hb) (by rw [List.length_map]; exact len5000 (by show 1 + ps.length ≤ 5000; omega)) fun pd H6 s6 hd => ⟨_, rfl, 1, rfl, -1, rfl, ?_⟩⟩⟩
      have s46 := (same_new (o := .tup [.ref pm]) n5).trans s6
      refine slX_ok ((KpT.of_same (s24.trans s46)).sq hb) fun psl H7 s7 h7 => ⟨_, rfl, 1, rfl, ?_⟩
      refine noPart (slX_ok ((KpT.of_same ((s24.trans s46).trans s7)).sq hb) fun psr H8 s8 h8 => ?_)
      obtain ⟨ci, cj, ce⟩ := cut_refs ps none (some (-1))
      rw [ce] at h7
      obtain ⟨di, dj, de⟩ := cut_refs ps (some 1) none
      rw [de] at h8
      refine ⟨_, rfl, Nat.zero_le _, fun p8 n8 => ⟨(by show 5 ≤ sizeLine; decide), fun p9 n9 => ⟨(by show 1 ≤ sizeLine; decide), fun p10 n10 => ⟨(by show 5 ≤ sizeLine; decide), fun pl npl => ?_⟩⟩⟩⟩
      have t8 := same_new (o := .tup []) n8
      have t9 := same_new (o := .tup [.str "if", .str "a", .str "a", .ref pb, .ref p8]) n9
      have t10 := same_new (o := .tup [.ref p9]) n10
      have tl := same_new (o := .lst [.ref pc, .ref pd, .ref psl, .ref psr, .ref p10]) npl
      have u9 := t10.trans tl
      have u8 := t9.trans u9
      have u7 := t8.trans u8
      have u6 := s8.trans u7
      have u5 := s7.trans u6
      have u4 := s46.trans u5
      have u0 := s24.trans u4
      have bB : BodyAt K _ pb b := ⟨ps, (KpT.of_same u0).sq hb, tb.mv (KpT.of_same u0)⟩
      have lm : TrAt K _ pm (Tr.one 5 ["leave"] "leave") := .one ((sm4.trans u4) _ _ upd_same) (One.leave)
      have bC : BodyAt K _ pc (b ++ [Tr.one 5 ["leave"] "leave"]) := ⟨ps ++ [pm], by rw [List.map_append]; exact (KpT.of_same u4).sq hc, (tb.mv (KpT.of_same u0)).app (.cons lm .nil)⟩
      have bD : BodyAt K _ pd ([Tr.one 5 ["leave"] "leave"] ++ b) := ⟨[pm] ++ ps, by rw [List.map_append]; exact (KpT.of_same u5).sq hd, (TrsAt.cons lm .nil).app (tb.mv (KpT.of_same u0))⟩
      have bS : BodyAt K _ psl ((b.drop ci).take cj) := ⟨_, (KpT.of_same u6).sq h7, ((tb.drop ci).take cj).mv (KpT.of_same u0)⟩
      have bR : BodyAt K _ psr ((b.drop di).take dj) := ⟨_, (KpT.of_same u7).sq h8, ((tb.drop di).take dj).mv (KpT.of_same u0)⟩
      have oa : OperT "a" := (name_by (z := "a") (by decide +kernel)).oper
      have bI : BodyAt K _ p10 [.cond "a" "a" b []] := ⟨[p9], SqT.of (tl _ _ upd_same), .cons (.cond (qs := []) (u9 _ _ upd_same) oa oa ((KpT.of_same u0).sq hb) (SqT.of (u8 _ _ upd_same)) (tb.mv (KpT.of_same u0)) .nil) .nil⟩
      have hqn := (KpT.of_same u0).sq hq
      have fin : ∀ {Hn : Hp}, Same H2 Hn → ∀ (x : Addr) (b1 : List Tr), BodyAt K Hn x b1 → okB b1 = true → amB b1 ≤ 41 → lvB b1 ≤ 5 → ∀ z, Hn z = none → Q (.ref z) (upd Hn z (.tup [.str "loop", .ref x])) := by
        intro Hn un x b1 hx ok1 am lv1 z nz
        have sz := same_new (o := .tup [.str "loop", .ref x]) nz
        obtain ⟨xs, sqx, trx⟩ := hx.mv (KpT.of_same sz)
        refine q z (.loop b1) _ (.loop upd_same sqx trx) (by show 7 ≤ 8; decide) ?_ ?_ ?_ (src2.same (un.trans sz)) (kb2.trans (KeepBut.of_same (un.trans sz)))
        · rw [lvT]
          omega
        · rw [amT]
          omega
        · rw [okT, ok1]
      obtain ⟨c1, c2, c3, c4⟩ := sub_le b ci cj
      obtain ⟨d1, d2, d3, d4⟩ := sub_le b di dj
      rcases w' with rfl | rfl | rfl | rfl | rfl
      · refine ⟨_, rfl, pl, _, _, _, rfl, rfl, SqL.of upd_same, atI_nat (j := 0) rfl, ?_⟩
        refine ⟨_, rfl, p, _, _, _, rfl, rfl, hqn, atI_nat (j := 0) rfl, _, rfl, (by show 2 ≤ sizeLine; decide), fun z nz => ?_⟩
        refine fin u0 pc (b ++ [Tr.one 5 ["leave"] "leave"]) bC (by rw [okB_app, okB_cons, okB_nil, okT, a3.2]; rfl)  ?_ ?_ z nz
        · rw [amB_app, amB_cons, amB_nil, amT]
          omega
        · rw [lvB_app, lvB_cons, lvB_nil, lvT]
          omega
      · refine ⟨_, rfl, pl, _, _, _, rfl, rfl, SqL.of upd_same, atI_nat (j := 1) rfl, ?_⟩
        refine ⟨_, rfl, p, _, _, _, rfl, rfl, hqn, atI_nat (j := 0) rfl, _, rfl, (by show 2 ≤ sizeLine; decide), fun z nz => ?_⟩
        refine fin u0 pd ([Tr.one 5 ["leave"] "leave"] ++ b) bD (by rw [okB_app, okB_cons, okB_nil, okT, a3.2]; rfl)  ?_ ?_ z nz
        · rw [amB_app, amB_cons, amB_nil, amT]
          omega
        · rw [lvB_app, lvB_cons, lvB_nil, lvT]
          omega
      · refine ⟨_, rfl, pl, _, _, _, rfl, rfl, SqL.of upd_same, atI_nat (j := 2) rfl, ?_⟩
        refine ⟨_, rfl, p, _, _, _, rfl, rfl, hqn, atI_nat (j := 0) rfl, _, rfl, (by show 2 ≤ sizeLine; decide), fun z nz => ?_⟩
        refine fin u0 psl ((b.drop ci).take cj) bS (c3 a3.2)  ?_ ?_ z nz
        · omega
        · omega
      · refine ⟨_, rfl, pl, _, _, _, rfl, rfl, SqL.of upd_same, atI_nat (j := 3) rfl, ?_⟩
        refine ⟨_, rfl, p, _, _, _, rfl, rfl, hqn, atI_nat (j := 0) rfl, _, rfl, (by show 2 ≤ sizeLine; decide), fun z nz => ?_⟩
        refine fin u0 psr ((b.drop di).take dj) bR (d3 a3.2)  ?_ ?_ z nz
        · omega
        · omega
      · refine ⟨_, rfl, pl, _, _, _, rfl, rfl, SqL.of upd_same, atI_nat (j := 4) rfl, ?_⟩
        refine ⟨_, rfl, p, _, _, _, rfl, rfl, hqn, atI_nat (j := 0) rfl, _, rfl, (by show 2 ≤ sizeLine; decide), fun z nz => ?_⟩
        refine fin u0 p10 ([.cond "a" "a" b []]) bI (by rw [okB_cons, okB_nil, okT, okB_nil, a3.2]; rfl)  ?_ ?_ z nz
        · rw [amB_cons, amB_nil, amT, amB_nil]
          omega
        · rw [lvB_cons, lvB_nil, lvT, lvB_nil]
          omega
    | @joined _ pb b ps hp hb tb =>
      have hq : SqT K H2 p [.str "joined", .ref pb] := SqT.of hp
      have a1 : amT (.joined b) = 1 + (amB b + 0) := by rw [amT]
      have a2 : lvT (.joined b) = 1 + max (lvB b) 0 := by rw [lvT]
      have a3 : goB b = true ∧ okB b = true := by
        rw [okT, Bool.and_eq_true] at hok
        exact hok
      refine ⟨_, rfl, p, _, _, _, rfl, rfl, hq, atI_nat (j := 0) rfl, rfl, _, rfl, ?_⟩
      refine ⟨_, rfl, p, _, _, _, rfl, rfl, hq, atI_nat (j := 1) rfl, Nat.zero_le _, fun p1 n1 => ⟨_, _, _, rfl, ?_⟩⟩
      have s1 := same_new (o := .tup []) n1
      have hq1 := (KpT.of_same s1).sq hq
      refine ⟨_, rfl, p, _, _, _, rfl, rfl, hq1, atI_nat (j := 0) rfl, rfl, _, rfl, ?_⟩
      refine ⟨(by show 3 ≤ sizeLine; decide), fun pm nm => ?_⟩
      have s2 := s1.trans (same_new (o := .tup [.str "let", .str "a", .str "b"]) nm)
      have hq2 := (KpT.of_same s2).sq hq
      refine ⟨_, rfl, p, _, _, _, rfl, rfl, hq2, atI_nat (j := 0) rfl, rfl, _, rfl, ?_⟩
      have lb := tb.len
      have lb2 := amB_len b
      -- the five bodies
      refine ⟨_, rfl, _, rfl, (by show 1 ≤ sizeLine; decide), fun p3 n3 => catX_ok ((KpT.of_same (s2.trans (same_new (o := .tup [.ref pm]) n3))).sq hb) (SqT.of upd_same) (by rw [List.length_map]; exact len5000 (by show ps.length + 1 ≤ 5000; omega)) fun pc H4 s4 hc => ?_⟩
      have s24 := (s2.trans (same_new (o := .tup [.ref pm]) n3)).trans s4
      have sm4 := (same_new (o := .tup [.ref pm]) n3).trans s4
      refine ⟨_, rfl, (by show 1 ≤ sizeLine; decide), fun p5 n5 => ⟨_, rfl, catX_ok (SqT.of upd_same) ((KpT.of_same (s24.trans (same_new (o := .tup [.ref pm]) n5))).sq hb) (by rw [List.length_map]; exact len5000 (by show 1 + ps.length ≤ 5000; omega)) fun pd H6 s6 hd => ⟨_, rfl, 1, rfl, -1, rfl, ?_⟩⟩⟩
      have s46 := (same_new (o := .tup [.ref pm]) n5).trans s6
      refine slX_ok ((KpT.of_same (s24.trans s46)).sq hb) fun psl H7 s7 h7 => ⟨_, rfl, 1, rfl, ?_⟩
      refine noPart (slX_ok ((KpT.of_same ((s24.trans s46).trans s7)).sq hb) fun psr H8 s8 h8 => ?_)
      obtain ⟨ci, cj, ce⟩ := cut_refs ps none (some (-1))
      rw [ce] at h7
      obtain ⟨di, dj, de⟩ := cut_refs ps (some 1) none
      rw [de] at h8
      refine ⟨_, rfl, Nat.zero_le _, fun p8 n8 => ⟨(by show 5 ≤ sizeLine; decide), fun p9 n9 => ⟨(by show 1 ≤ sizeLine; decide), fun p10 n10 => ⟨(by show 5 ≤ sizeLine; decide), fun pl npl => ?_⟩⟩⟩⟩
      have t8 := same_new (o := .tup []) n8
      have t9 := same_new (o := .tup [.str "if", .str "a", .str "a", .ref pb, .ref p8]) n9
      have t10 := same_new (o := .tup [.ref p9]) n10
      have tl := same_new (o := .lst [.ref pc, .ref pd, .ref psl, .ref psr, .ref p10]) npl
      have u9 := t10.trans tl
      have u8 := t9.trans u9
      have u7 := t8.trans u8
      have u6 := s8.trans u7
      have u5 := s7.trans u6
      have u4 := s46.trans u5
      have u0 := s24.trans u4
      have bB : BodyAt K _ pb b := ⟨ps, (KpT.of_same u0).sq hb, tb.mv (KpT.of_same u0)⟩
      have lm : TrAt K _ pm (Tr.one 4 ["let", "a", "b"] ("let " ++ "a" ++ " " ++ "b")) := .one ((sm4.trans u4) _ _ upd_same) (One.let_ (name_by (z := "a") (by decide +kernel)) (name_by (z := "b") (by decide +kernel)).oper)
      have bC : BodyAt K _ pc (b ++ [Tr.one 4 ["let", "a", "b"] ("let " ++ "a" ++ " " ++ "b")]) := ⟨ps ++ [pm], by rw [List.map_append]; exact (KpT.of_same u4).sq hc, (tb.mv (KpT.of_same u0)).app (.cons lm .nil)⟩
      have bD : BodyAt K _ pd ([Tr.one 4 ["let", "a", "b"] ("let " ++ "a" ++ " " ++ "b")] ++ b) := ⟨[pm] ++ ps, by rw [List.map_append]; exact (KpT.of_same u5).sq hd, (TrsAt.cons lm .nil).app (tb.mv (KpT.of_same u0))⟩
      have bS : BodyAt K _ psl ((b.drop ci).take cj) := ⟨_, (KpT.of_same u6).sq h7, ((tb.drop ci).take cj).mv (KpT.of_same u0)⟩
      have bR : BodyAt K _ psr ((b.drop di).take dj) := ⟨_, (KpT.of_same u7).sq h8, ((tb.drop di).take dj).mv (KpT.of_same u0)⟩
      have oa : OperT "a" := (name_by (z := "a") (by decide +kernel)).oper
      have bI : BodyAt K _ p10 [.cond "a" "a" b []] := ⟨[p9], SqT.of (tl _ _ upd_same), .cons (.cond (qs := []) (u9 _ _ upd_same) oa oa ((KpT.of_same u0).sq hb) (SqT.of (u8 _ _ upd_same)) (tb.mv (KpT.of_same u0)) .nil) .nil⟩
      have hqn := (KpT.of_same u0).sq hq
      have fin : ∀ {Hn : Hp}, Same H2 Hn → ∀ (x : Addr) (b1 : List Tr), BodyAt K Hn x b1 → okB b1 = true → goB b1 = true → amB b1 ≤ 41 → lvB b1 ≤ 5 → ∀ z, Hn z = none → Q (.ref z) (upd Hn z (.tup [.str "joined", .ref x])) := by
        intro Hn un x b1 hx ok1 gb am lv1 z nz
        have sz := same_new (o := .tup [.str "joined", .ref x]) nz
        obtain ⟨xs, sqx, trx⟩ := hx.mv (KpT.of_same sz)
        refine q z (.joined b1) _ (.joined upd_same sqx trx) (by show 7 ≤ 9; decide) ?_ ?_ ?_ (src2.same (un.trans sz)) (kb2.trans (KeepBut.of_same (un.trans sz)))
        · rw [lvT]
          omega
        · rw [amT]
          omega
        · rw [okT, ok1, gb]
          rfl
      obtain ⟨c1, c2, c3, c4⟩ := sub_le b ci cj
      obtain ⟨d1, d2, d3, d4⟩ := sub_le b di dj
      rcases w' with rfl | rfl | rfl | rfl | rfl
      · refine ⟨_, rfl, pl, _, _, _, rfl, rfl, SqL.of upd_same, atI_nat (j := 0) rfl, ?_⟩
        refine ⟨_, rfl, p, _, _, _, rfl, rfl, hqn, atI_nat (j := 0) rfl, _, rfl, (by show 2 ≤ sizeLine; decide), fun z nz => ?_⟩
        refine fin u0 pc (b ++ [Tr.one 4 ["let", "a", "b"] ("let " ++ "a" ++ " " ++ "b")]) bC (by rw [okB_app, okB_cons, okB_nil, okT, a3.2]; rfl) (by rw [goB_app, goB_cons, goB_nil, goT, a3.1]; rfl) ?_ ?_ z nz
        · rw [amB_app, amB_cons, amB_nil, amT]
          omega
        · rw [lvB_app, lvB_cons, lvB_nil, lvT]
          omega
      · refine ⟨_, rfl, pl, _, _, _, rfl, rfl, SqL.of upd_same, atI_nat (j := 1) rfl, ?_⟩
        refine ⟨_, rfl, p, _, _, _, rfl, rfl, hqn, atI_nat (j := 0) rfl, _, rfl, (by show 2 ≤ sizeLine; decide), fun z nz => ?_⟩
        refine fin u0 pd ([Tr.one 4 ["let", "a", "b"] ("let " ++ "a" ++ " " ++ "b")] ++ b) bD (by rw [okB_app, okB_cons, okB_nil, okT, a3.2]; rfl) (by rw [goB_app, goB_cons, goB_nil, goT, a3.1]; rfl) ?_ ?_ z nz
        · rw [amB_app, amB_cons, amB_nil, amT]
          omega
        · rw [lvB_app, lvB_cons, lvB_nil, lvT]
          omega
      · refine ⟨_, rfl, pl, _, _, _, rfl, rfl, SqL.of upd_same, atI_nat (j := 2) rfl, ?_⟩
        refine ⟨_, rfl, p, _, _, _, rfl, rfl, hqn, atI_nat (j := 0) rfl, _, rfl, (by show 2 ≤ sizeLine; decide), fun z nz => ?_⟩
        refine fin u0 psl ((b.drop ci).take cj) bS (c3 a3.2) (c4 a3.1) ?_ ?_ z nz
        · omega
        · omega
      · refine ⟨_, rfl, pl, _, _, _, rfl, rfl, SqL.of upd_same, atI_nat (j := 3) rfl, ?_⟩
        refine ⟨_, rfl, p, _, _, _, rfl, rfl, hqn, atI_nat (j := 0) rfl, _, rfl, (by show 2 ≤ sizeLine; decide), fun z nz => ?_⟩
        refine fin u0 psr ((b.drop di).take dj) bR (d3 a3.2) (d4 a3.1) ?_ ?_ z nz
        · omega
        · omega
      · refine ⟨_, rfl, pl, _, _, _, rfl, rfl, SqL.of upd_same, atI_nat (j := 4) rfl, ?_⟩
        refine ⟨_, rfl, p, _, _, _, rfl, rfl, hqn, atI_nat (j := 0) rfl, _, rfl, (by show 2 ≤ sizeLine; decide), fun z nz => ?_⟩
        refine fin u0 p10 ([.cond "a" "a" b []]) bI (by rw [okB_cons, okB_nil, okT, okB_nil, a3.2]; rfl) (by rw [goB_cons, goB_nil, goT, goB_nil, a3.1]; rfl) ?_ ?_ z nz
        · rw [amB_cons, amB_nil, amT, amB_nil]
          omega
        · rw [lvB_cons, lvB_nil, lvT, lvB_nil]
          omega
end
end K04
set_option Elab.async false
set_option linter.all false
set_option maxRecDepth 100000
set_option maxHeartbeats 4000000
namespace K04
open PySem PySem.Spec PyProof.Rows L2 Mo
def kindsB (k : Nat) : List Bool := [k == 7, k == 8, k == 9, k == 0, k == 1, k == 2, k == 3, k == 4, k == 5, k == 6]
abbrev kindW : List Str := ["if", "loop", "joined", "look", "put", "swap", "try", "let", "leave", "return"]
def kindF (k i : Nat) : List Str := ((List.range i).filter fun j => (kindsB k).getD j false).map fun j => kindW.getD j ""
theorem kind_all : ∀ k < 10, kindF k 10 = [kwords.getD k ""] := by decide +kernel
section
variable {w : World} {K : PySem.W.Frag} {mg : Str → Option Value} {base : Heap} {A : Ads}
def spKinds (K : PySem.W.Frag) (A : Ads) : Sp := fun vs H Q _ => ∃ (p : Addr) (d : Sd) (bs os : List Addr), vs = [.ref p] ∧ StAt K A H p d bs os ∧ ∀ (l : Addr) (H' : Hp), Same H H' → H' l = some (.lst [.str (kwords.getD d.k "")]) → Q (.ref l) H'
theorem ok_law_kinds (T : Txt K mg A) : FnOk P w K mg base CX0 1 A.a_law_kinds A.d_law_kinds ["_law_thing"] (spKinds K A) := by
  have nd := sc_law_kinds.nd
  refine T.f_law_kinds.ok sc_law_kinds (fun vs H Q E h => ?_) (fun cdv A' outer s H vs Q E hr h => ?_)
  · obtain ⟨p, d, bs, os, rfl, _⟩ := h
    rfl
  · obtain ⟨p, d, bs, os, rfl, ⟨C, dx, fs, ps, pr, pb, po, h1, h2, h3, h4, h5, h6, h7, h8, h9, h10, h11, h12⟩, q⟩ := h
    have fc := T.fam C (List.mem_of_getElem? h1)
    have k10 := k_lt h1
    have ty : ∀ H2, Same H H2 → TyX K H2 (.ref p) (.ref C) := fun H2 e => fc.ty _ _ _ _ (e _ _ h2)
    have kt : ∀ j D, A.fam[j]? = some D → PySem.W.kitOne K (.ref C) (.ref D) = some (d.k == j) := fun j D hj => (T.tab d.k j C D h1 hj).1
    refine ⟨_, (pss_cons (ps_set (i := 1) nd rfl (Or.inr rfl) (pe_lst (pa_cons (pe_callB call_isi (by rfl) T.b_isinstance (by decide +kernel) (pa_cons (pv 0) (pa_cons (pe_gR T.m_If) pa_nil))) (pa_cons (pe_callB call_isi (by rfl) T.b_isinstance (by decide +kernel) (pa_cons (pv 0) (pa_cons (pe_gR T.m_Loop) pa_nil))) (pa_cons (pe_callB call_isi (by rfl) T.b_isinstance (by decide +kernel) (pa_cons (pv 0) (pa_cons (pe_gR T.m_Joined) pa_nil))) pa_nil)))))
      (pss_cons (ps_set (i := 1) nd rfl (Or.inr rfl) (pe_op op_cat (pv 1) (pe_lst (pa_cons (pe_callB call_isi (by rfl) T.b_isinstance (by decide +kernel) (pa_cons (pv 0) (pa_cons (pe_gR T.m_Look) pa_nil))) (pa_cons (pe_callB call_isi (by rfl) T.b_isinstance (by decide +kernel) (pa_cons (pv 0) (pa_cons (pe_gR T.m_Put) pa_nil))) (pa_cons (pe_callB call_isi (by rfl) T.b_isinstance (by decide +kernel) (pa_cons (pv 0) (pa_cons (pe_gR T.m_Swap) pa_nil))) pa_nil))))))
      (pss_cons (ps_set (i := 1) nd rfl (Or.inr rfl) (pe_op op_cat (pv 1) (pe_lst (pa_cons (pe_callB call_isi (by rfl) T.b_isinstance (by decide +kernel) (pa_cons (pv 0) (pa_cons (pe_gR T.m_Try) pa_nil))) (pa_cons (pe_callB call_isi (by rfl) T.b_isinstance (by decide +kernel) (pa_cons (pv 0) (pa_cons (pe_gR T.m_Let) pa_nil))) (pa_cons (pe_callB call_isi (by rfl) T.b_isinstance (by decide +kernel) (pa_cons (pv 0) (pa_cons (pe_gR T.m_Leave) pa_nil))) pa_nil))))))
      (pss_cons (ps_set (i := 1) nd rfl (Or.inr rfl) (pe_op op_cat (pv 1) (pe_lst (pa_cons (pe_callB call_isi (by rfl) T.b_isinstance (by decide +kernel) (pa_cons (pv 0) (pa_cons (pe_gR T.m_Return) pa_nil))) pa_nil))))
      (pss_cons (ps_set (i := 2) nd rfl (Or.inr rfl) (pe_lst (pa_cons pe_str (pa_cons pe_str (pa_cons pe_str (pa_cons pe_str (pa_cons pe_str (pa_cons pe_str (pa_cons pe_str (pa_cons pe_str (pa_cons pe_str (pa_cons pe_str pa_nil))))))))))))
      (pss_one (ps_ret (pe_lc (own := [("_law_k", 3)]) (g := gName 3) rfl nd (pi_range1 (by rfl) T.b_range (pa_cons pe_int pa_nil)) (blkOk_by (N := nm_law_kinds) (sc := defScope st_law_kinds) (by decide +kernel)) (fun _ _ _ _ _ => (pg_name (i := 3) nd rfl (Or.inl rfl))) (fun _ _ _ _ _ => (pts_one (pt_val (pe_ix (show IxR _ (rIxL K) from ix_list) (pv 1) (pv 3) (fun _ _ => rfl))))) (fun _ _ _ _ _ => (pe_ix (show IxR _ (rIxL K) from ix_list) (pv 2) (pv 3) (fun _ _ => rfl))))))))))), ?_⟩
    have r0 := Same.refl H
    refine ⟨_, rfl, _, _, _, _, _, rfl, .own _, ty _ r0, kt 7 _ rfl, _, rfl, _, _, _, _, _, rfl, .own _, ty _ r0, kt 8 _ rfl, _, rfl, _, _, _, _, _, rfl, .own _, ty _ r0, kt 9 _ rfl, (by show 3 ≤ sizeLine; decide), fun p1 n1 => ?_⟩
    have s1 := same_new (o := .lst [.bl (d.k == 7), .bl (d.k == 8), .bl (d.k == 9)]) n1
    refine ⟨_, rfl, _, rfl, _, _, _, _, _, rfl, .own _, ty _ s1, kt 0 _ rfl, _, rfl, _, _, _, _, _, rfl, .own _, ty _ s1, kt 1 _ rfl, _, rfl, _, _, _, _, _, rfl, .own _, ty _ s1, kt 2 _ rfl, (by show 3 ≤ sizeLine; decide), fun p2 n2 => ?_⟩
    have e2 := same_new (o := .lst [.bl (d.k == 0), .bl (d.k == 1), .bl (d.k == 2)]) n2
    have s2 := s1.trans e2
    refine ⟨p1, p2, _, _, rfl, rfl, e2 _ _ upd_same, upd_same, (by show 3 + 3 ≤ sizeLine; decide), fun p3 n3 => ?_⟩
    have s3 := s2.trans (same_new (o := .lst ([.bl (d.k == 7), .bl (d.k == 8), .bl (d.k == 9)] ++ [.bl (d.k == 0), .bl (d.k == 1), .bl (d.k == 2)])) n3)
    refine ⟨_, rfl, _, rfl, _, _, _, _, _, rfl, .own _, ty _ s3, kt 3 _ rfl, _, rfl, _, _, _, _, _, rfl, .own _, ty _ s3, kt 4 _ rfl, _, rfl, _, _, _, _, _, rfl, .own _, ty _ s3, kt 5 _ rfl, (by show 3 ≤ sizeLine; decide), fun p4 n4 => ?_⟩
    have e4 := same_new (o := .lst [.bl (d.k == 3), .bl (d.k == 4), .bl (d.k == 5)]) n4
    have s4 := s3.trans e4
    refine ⟨p3, p4, _, _, rfl, rfl, e4 _ _ upd_same, upd_same, (by show 6 + 3 ≤ sizeLine; decide), fun p5 n5 => ?_⟩
    have s5 := s4.trans (same_new (o := .lst ([.bl (d.k == 7), .bl (d.k == 8), .bl (d.k == 9)] ++ [.bl (d.k == 0), .bl (d.k == 1), .bl (d.k == 2)] ++ [.bl (d.k == 3), .bl (d.k == 4), .bl (d.k == 5)])) n5)
    refine ⟨_, rfl, _, rfl, _, _, _, _, _, rfl, .own _, ty _ s5, kt 6 _ rfl, (by show 1 ≤ sizeLine; decide), fun p6 n6 => ?_⟩
    have e6 := same_new (o := .lst [.bl (d.k == 6)]) n6
    refine ⟨p5, p6, _, _, rfl, rfl, e6 _ _ upd_same, upd_same, (by show 9 + 1 ≤ sizeLine; decide), fun p7 n7 => ?_⟩
    have s7 := (s5.trans e6).trans (same_new (o := .lst ((kindsB d.k).map V.bl)) n7)
    refine ⟨(by show 10 ≤ sizeLine; decide), fun p8 n8 => ?_⟩
    have e8 := same_new (o := .lst (kindW.map V.str)) n8
    have s8 := s7.trans e8
    have h7' := e8 _ _ (upd_same (o := .lst ((kindsB d.k).map V.bl)))
    refine ⟨10, rfl, by decide, by decide, fun D hD => lc_it (walk_range (lo := 0) (n := 10)) (fun i H9 => Same H H9 ∧ H9 p7 = some (.lst ((kindsB d.k).map V.bl)) ∧ H9 p8 = some (.lst (kindW.map V.str)) ∧ H9 D = some (.lst ((kindF d.k i).map V.str))) ⟨s8.trans (same_new hD), same_new hD _ _ h7', same_new hD _ _ upd_same, upd_same⟩ (fun _ _ _ _ => trivial) ?_ ?_⟩
    · rintro i x H9 H10 hi ⟨s9, g7, g8, hd9⟩ ⟨rfl, rfl⟩
      have nD7 : p7 ≠ D := ne_of_none h7' hD
      have nD8 : p8 ≠ D := ne_of_none upd_same hD
      have gb : (kindsB d.k)[i]? = some ((kindsB d.k).getD i false) := by
        rw [List.getD_eq_getElem?_getD]
        have : i < (kindsB d.k).length := hi
        rw [List.getElem?_eq_getElem this]
        rfl
      have gw : kindW[i]? = some (kindW.getD i "") := by
        rw [List.getD_eq_getElem?_getD]
        have : i < kindW.length := hi
        rw [List.getElem?_eq_getElem this]
        rfl
      have at1 : atI ((kindsB d.k).map V.bl) (0 + (i : Int)) = some (.bl ((kindsB d.k).getD i false)) := by
        rw [Int.zero_add]
        exact atI_nat (by rw [List.getElem?_map, gb]; rfl)
      have at2 : atI (kindW.map V.str) (0 + (i : Int)) = some (.str (kindW.getD i "")) := by
        rw [Int.zero_add]
        exact atI_nat (by rw [List.getElem?_map, gw]; rfl)
      have fs : kindF d.k (i + 1) = kindF d.k i ++ (if (kindsB d.k).getD i false = true then [kindW.getD i ""] else []) := by
        unfold kindF
        rw [List.range_succ, List.filter_append, List.map_append]
        congr 1
        by_cases hb : (kindsB d.k).getD i false = true
        · rw [if_pos hb, List.filter_cons_of_pos (by exact hb)]
          rfl
        · rw [if_neg hb, List.filter_cons_of_neg (by exact hb)]
          rfl
      refine ⟨rfl, _, rfl, _, rfl, p7, _, _, _, rfl, rfl, SqL.of g7, at1, _, rfl, ?_⟩
      refine ite2 (fun hb => ?_) (fun hb => ?_)
      · have hb : (kindsB d.k).getD i false = true := hb
        rw [if_pos hb] at fs
        refine ⟨_, rfl, _, rfl, p8, _, _, _, rfl, rfl, SqL.of g8, at2, _, hd9, ?_, ?_, (upd_ne nD7).trans g7, (upd_ne nD8).trans g8, ?_⟩
        · rw [List.length_map]
          unfold kindF
          rw [List.length_map]
          exact lt5000 (Nat.lt_of_le_of_lt (List.length_filter_le _ _) (by rw [List.length_range]; omega))
        · intro b o e
          rw [upd_ne (ne_of_none (s8 _ _ e) hD)]
          exact s9 _ _ e
        · rw [upd_same, fs, List.map_append]
          rfl
      · have hb : ¬ (kindsB d.k).getD i false = true := hb
        rw [if_neg hb, List.append_nil] at fs
        exact ⟨s9, g7, g8, by rw [fs]; exact hd9⟩
    · rintro H9 ⟨s9, g7, g8, hd9⟩
      rw [kind_all d.k k10] at hd9
      exact q D H9 s9 hd9
end
end K04
set_option Elab.async false
set_option linter.all false
set_option maxRecDepth 100000
set_option maxHeartbeats 4000000
namespace K04
open PySem PySem.Spec PyProof.Rows L2 Mo
theorem pre_nil (rs : List Str) : pre "" rs = rs := by
  unfold pre
  have : (fun r : Str => ("" : Str) ++ r) = id := by
    funext r
    exact str_ext (by simp only [cp, cps_app]; rfl)
  rw [this, List.map_id]
theorem jn_cps (y : Str) : ∀ l : List Str, ∀ c ∈ (Str.join y l).cps.toList, c ∈ y.cps.toList ∨ ∃ x ∈ l, c ∈ x.cps.toList
  | [], c, h => by
    have : (Str.join y []).cps.toList = [] := rfl
    rw [this] at h
    exact (List.not_mem_nil h).elim
  | [x], c, h => .inr ⟨x, List.mem_cons_self, h⟩
  | x :: z :: r, c, h => by
    have e : Str.join y (x :: z :: r) = x ++ y ++ Str.join y (z :: r) := rfl
    rw [e, cps_app, cps_app] at h
    rcases List.mem_append.mp h with h | h
    · rcases List.mem_append.mp h with h | h
      · exact .inr ⟨x, List.mem_cons_self, h⟩
      · exact .inl h
    · rcases jn_cps y (z :: r) c h with h | ⟨u, hu, h⟩
      · exact .inl h
      · exact .inr ⟨u, List.mem_cons_of_mem _ hu, h⟩
theorem jn_len (y : Str) : ∀ l : List Str, (Str.join y l).length ≤ (l.map (·.length)).sum + l.length * y.length
  | [] => Nat.zero_le _
  | [x] => by
    show x.length ≤ _
    simp
  | x :: z :: r => by
    have h := jn_len y (z :: r)
    have e : Str.join y (x :: z :: r) = x ++ y ++ Str.join y (z :: r) := rfl
    rw [e, app_length, app_length, List.map_cons, List.sum_cons, List.length_cons, Nat.succ_mul]
    omega
theorem its_len : ∀ (cl : List Nat) (ds : List PyData), (its cl ds).length ≤ (ds.map fun d => d.shown.length + 2).sum + cl.length
  | cl, [] => by
    show cl.length ≤ _
    omega
  | cl, [d] => by
    show (cp d.shown ++ cl).length ≤ _
    rw [List.length_append]
    have : (cp d.shown).length = d.shown.length := Array.length_toList
    simp only [List.map_cons, List.map_nil, List.sum_cons, List.sum_nil]
    omega
  | cl, d :: e :: ds => by
    have h := its_len cl (e :: ds)
    show (cp d.shown ++ ([44, 32] ++ its cl (e :: ds))).length ≤ _
    rw [List.length_append, List.length_append, List.map_cons, List.sum_cons]
    have : (cp d.shown).length = d.shown.length := Array.length_toList
    have h3 : ([44, 32] : List Nat).length = 2 := rfl
    omega
theorem list_len (ds : List PyData) : (PyData.list ds).shown.length ≤ (ds.map fun d => d.shown.length + 2).sum + 2 := by
  have e : (cp (PyData.list ds).shown).length = (PyData.list ds).shown.length := Array.length_toList
  rw [cp_list] at e
  have := its_len [93] ds
  have h3 : ([93] : List Nat).length = 1 := rfl
  rw [List.length_cons] at e
  omega
/-- what is told of a statement -/
def toldD (t : Tr) : PyData := .list [.str (Txt.join "\n" (rowsT t)), .str ("Statement(" ++ t.line ++ ")"), .str (kwords.getD t.k ""), .int (amT t : Nat), .int (lvT t : Nat)]
theorem kw_len : ∀ k, (kwords.getD k "").length ≤ 8 ∧ ∀ c ∈ (kwords.getD k "").cps.toList, c < 128 := by
  intro k
  by_cases h : k < 10
  · have : (List.range 10).all (fun k => decide ((kwords.getD k "").length ≤ 8) && (kwords.getD k "").cps.toList.all (fun c => decide (c < 128))) = true := by decide +kernel
    have := List.all_eq_true.mp this k (List.mem_range.mpr h)
    rw [Bool.and_eq_true] at this
    exact ⟨of_decide_eq_true this.1, fun c hc => of_decide_eq_true (List.all_eq_true.mp this.2 c hc)⟩
  · have e : kwords.getD k "" = "" := by
      rw [List.getD_eq_getElem?_getD, List.getElem?_eq_none (by show 10 ≤ k; omega)]
      rfl
    rw [e]
    exact ⟨by decide, by decide⟩
theorem log40 : ∀ n ≤ 40, Nat.log2 n < 1920 := by decide +kernel
theorem pl_int {n : Nat} (h : n ≤ 40) : Pl (.int (n : Nat)) := by
  rw [Pl]
  exact ⟨by omega, by rw [Int.natAbs_natCast]; exact log40 n h⟩
theorem join_ok {rows : List Str} (n : Nat) (h : rows.length ≤ n) (a : ∀ r ∈ rows, r.length ≤ 210 ∧ AlnT r) : (reprText (Txt.join "\n" rows)).length ≤ 10 * (n * 211) + 2 := by
  rw [TL.join_eq]
  have l := jn_len "\n" rows
  have sm := sum_len (n := 210) fun r hr => (a r hr).1
  have e : ("\n" : Str).length = 1 := rfl
  rw [e] at l
  refine Nat.le_trans (StrLaws.reprText_len _ fun c hc => ?_) ?_
  · rcases jn_cps "\n" rows c hc with h | ⟨x, hx, h⟩
    · have : ("\n" : Str).cps.toList = [10] := by decide +kernel
      rw [this] at h
      rw [List.mem_singleton.mp h]
      decide
    · have := aln_lt ((a x hx).2 c h)
      exact Nat.lt_trans this (by decide)
  · have : (Str.join "\n" rows).length ≤ n * 211 := by
      have := Nat.mul_le_mul_right 211 h
      omega
    omega
theorem toldD_ok {t : Tr} (ro : RowsOk (amT t) (lvT t) (rowsT t)) (ll : t.line.length ≤ 200) (la : AlnT t.line) : (toldD t).showable = true ∧ (toldD t).hasDict = false ∧ (toldD t).depth ≤ 60 ∧ (toldD t).shown.length ≤ sizeLine := by
  obtain ⟨a1, a2, a3, a4, a5, a6, a7⟩ := ro
  have ia := pl_int a2
  have il := pl_int (n := lvT t) (by omega)
  refine ⟨?_, rfl, ?_, ?_⟩
  · unfold toldD
    simp only [PyData.showable, PyData.showableAll]
    rw [Int.natAbs_natCast, Int.natAbs_natCast, decide_eq_true (log40 _ a2), decide_eq_true (log40 (lvT t) (by omega))]
    rfl
  · show max 0 (max 0 (max 0 (max 0 (max 0 0)))) + 1 ≤ 60
    decide
  · refine Nat.le_trans (list_len _) ?_
    simp only [List.map_cons, List.map_nil, List.sum_cons, List.sum_nil, PyData.shown_str]
    have b1 := join_ok 80 (rows := rowsT t) (by omega) fun r hr => ⟨by have := (a7 r hr).1; omega, (a7 r hr).2⟩
    have e1 : ("Statement(" : Str).length = 10 := rfl
    have e2 : (")" : Str).length = 1 := rfl
    have b2 := StrLaws.reprText_len ("Statement(" ++ t.line ++ ")") fun c hc => by
      have : AlnT ("Statement(" ++ t.line ++ ")") := aln_app (aln_app (aln_by (by decide +kernel)) la) (aln_by (by decide +kernel))
      exact Nat.lt_trans (aln_lt (this c hc)) (by decide)
    rw [app_length, app_length, e1, e2] at b2
    obtain ⟨k1, k2⟩ := kw_len t.k
    have b3 := StrLaws.reprText_len (kwords.getD t.k "") fun c hc => Nat.lt_trans (k2 c hc) (by decide)
    have b4 := shown_len ia
    have b5 := shown_len il
    rw [wt] at b4 b5
    have e3 : sizeLine = 16777216 := rfl
    omega
end K04
set_option Elab.async false
set_option linter.all false
set_option maxRecDepth 100000
set_option maxHeartbeats 4000000
namespace K04
open PySem PySem.Spec PyProof.Rows L2 Mo
section
variable {w : World} {K : PySem.W.Frag} {mg : Str → Option Value} {base : Heap} {A : Ads}
theorem shaped_kw (k : Nat) (h : k < 10) : SeqAt.shaped (.list [.str (kwords.getD k "")]) = true := by
  have : (List.range 10).all (fun k => SeqAt.shaped (.list [.str (kwords.getD k "")])) = true := by decide +kernel
  exact List.all_eq_true.mp this k (List.mem_range.mpr h)
def spIs (K : PySem.W.Frag) (A : Ads) : Sp := fun vs H Q _ => ∃ (p pt : Addr) (t : Tr), vs = [.ref p, .ref pt] ∧ StT K A H p t ∧ TrAt K H pt t ∧ ∀ H', Same H H' → Q (.bl true) H'
theorem ok_law_is (T : Txt K mg A) : FnG P w K mg base CX0 11 A.a_law_is A.d_law_is ["_law_thing", "_law_tree"] (spIs K A) := by
  have nd := sc_law_is.nd
  refine Fun_okG T.f_law_is sc_law_is (fun vs H Q E h => ?_) (fun cdv A' outer s H vs Q E hr hG h => ?_)
  · obtain ⟨p, pt, t, rfl, _⟩ := h
    rfl
  · obtain ⟨p, pt, t, rfl, st, trt, q⟩ := h
    obtain ⟨bs, os, sa, _, _⟩ := st.at
    have ro : RowsOk (amT t) (lvT t) (rowsT t) := sa.ok
    obtain ⟨ll, la⟩ := trt.line_ok
    have lv5 := ro.2.2.2.1
    have am40 := ro.2.1
    have rl := rowsT_len t
    refine ⟨_, (pss_cons (ps_set (i := 2) nd rfl (Or.inl rfl) (pe_call (ok_law_lines T 8) (hr.mono (by decide)) (by rfl) T.m_law_lines T.k_law_lines T.v_law_lines .nil pass0 (pa_cons (pe_tup (pa_cons (pv 1) pa_nil)) (pa_cons pe_str pa_nil))))
      (pss_cons (ps_if (PW.pt (pw_or (pt_cmpR (op_neD hr.units) (pe_call (ok_law_kinds T) (hr.mono (by decide)) (by rfl) T.m_law_kinds T.k_law_kinds T.v_law_kinds .nil pass0 (pa_cons (pv 0) pa_nil)) (pe_lst (pa_cons (pe_ix ix_tup (pv 1) pe_int (fun _ _ => rfl)) pa_nil)) (nomark _)) (pw_or1 (pt_not (pt_val (pe_callB call_isi (by rfl) T.b_isinstance (by decide +kernel) (pa_cons (pv 0) (pa_cons (pe_gR T.m_Statement) pa_nil)))))))) (pss_one (ps_ret pe_bl)) pss_nil)
      (pss_cons (ps_set (i := 3) nd rfl (Or.inl rfl) (pe_lst (pa_cons (pe_callTy (call_strF (ok_Statement___str__ T) (hr.mono (by decide)) T.sp_Statement___str__ T.v_Statement___str__ pass0) (by rfl) T.b_str (by decide +kernel) (pa_cons (pv 0) pa_nil)) (pa_cons (pe_callB (call_reprF (ok_Statement___repr__ T) (hr.mono (by decide)) T.sp_Statement___repr__ T.v_Statement___repr__ pass0) (by rfl) T.b_repr (by decide +kernel) (pa_cons (pv 0) pa_nil)) (pa_cons (pe_con (pv 0) rfl) (pa_cons (pe_propF (pv 0) T.pr_Statement_amount (ok_Statement_amount T) (hr.mono (by decide)) T.v_Statement_amount pass0) (pa_cons (pe_propF (pv 0) T.pr_Statement_level (ok_Statement_level T) (hr.mono (by decide)) T.v_Statement_level pass0) pa_nil)))))))
      (pss_cons (ps_set (i := 4) nd rfl (Or.inl rfl) (pe_lst (pa_cons (pe_join pe_str (pv 2)) (pa_cons (pe_op op_add_str (pe_op op_add_str pe_str (pe_ix ix_list (pv 2) pe_int (fun _ _ => rfl))) pe_str) (pa_cons (pe_ix ix_tup (pv 1) pe_int (fun _ _ => rfl)) (pa_cons (pe_call (ok_law_size T 8) (hr.mono (by decide)) (by rfl) T.m_law_size T.k_law_size T.v_law_size .nil pass0 (pa_cons (pe_lst (pa_cons (pv 1) pa_nil)) pa_nil)) (pa_cons (pe_call (ok_law_height T 8) (hr.mono (by decide)) (by rfl) T.m_law_height T.k_law_height T.v_law_height .nil pass0 (pa_cons (pv 1) pa_nil)) pa_nil)))))))
      (pss_one (ps_ret (pe_cmpR op_eq (pe_callB (call_repr hr hG) (by rfl) T.b_repr (by decide +kernel) (pa_cons (pv 3) pa_nil)) (pe_callB (call_repr hr hG) (by rfl) T.b_repr (by decide +kernel) (pa_cons (pv 4) pa_nil)) (nomark _)))))))), ?_⟩
    refine ⟨_, rfl, (by show 1 ≤ sizeLine; decide), fun p1 n1 => ?_⟩
    have e1 := same_new (o := .tup [.ref pt]) n1
    refine ⟨p1, [pt], [t], "", rfl, .inr (SqT.of upd_same), .cons (trt.mv (KpT.of_same e1)) .nil, ?_, ?_, ?_, ?_, fun l H1 s1 nl hl => ?_⟩
    · rw [lvB_cons, lvB_nil]
      omega
    · rw [lvB_cons, lvB_nil]
      omega
    · rw [amB_cons, amB_nil]
      omega
    · rw [lvB_cons, lvB_nil]
      show 0 + _ ≤ 100
      omega
    rw [rowsB_cons, rowsB_nil, List.append_nil, pre_nil] at hl
    have s01 := e1.trans s1
    have sa1 := sa.mv (KpT.of_same s01)
    refine ⟨_, rfl, p, sdT t, bs, os, rfl, sa1, fun lk H2 s2 hk => ?_⟩
    have s02 := s01.trans s2
    obtain ⟨z, xs, hq, hz, k10⟩ := (trt.mv (KpT.of_same s02)).hd
    have ez : kwords.getD t.k "" = z := by
      rw [List.getD_eq_getElem?_getD, hz]
      rfl
    refine ⟨_, rfl, pt, _, _, _, rfl, rfl, hq, atI_nat (j := 0) rfl, (by show 1 ≤ sizeLine; decide), fun l2 n2 => ?_⟩
    have e3 := same_new (o := .lst [.str z]) n2
    have s03 := s02.trans e3
    have hk : H2 lk = some (.lst [.str (kwords.getD t.k "")]) := hk
    refine ⟨.list [.str (kwords.getD t.k "")], .list [.str (kwords.getD t.k "")], .lst (SqL.of (e3 _ _ hk)) (.cons (.str _) .nil), .lst (SqL.of upd_same) (by rw [ez]; exact .cons (.str _) .nil), shaped_kw _ k10, shaped_kw _ k10, _, rfl, ?_⟩
    rw [SeqAt.eqv_refl _ (SeqAt.canLay_of_shaped (shaped_kw _ k10))]
    have sa3 := sa.mv (KpT.of_same s03)
    have sa3' := sa3
    obtain ⟨C, dx, fs, ps, pr, pb, po, h1, h2, h3, h4, h5, h6, h7, h8, h9, h10, h11, h12⟩ := sa3
    have mem := List.mem_of_getElem? h1
    have fc := T.fam C mem
    obtain ⟨u, z', hz', con⟩ := con_k T h1
    have hz'' : kwords[t.k]? = some z' := hz'
    rw [hz] at hz''
    cases hz''
    refine ⟨_, rfl, _, _, _, _, _, rfl, .own _, fc.ty _ _ _ _ h2, (T.sub C mem).2, _, rfl, ?_⟩
    -- what is told
    refine ⟨_, rfl, p, C, dx, fs, rfl, mem, h2, p, _, _, _, rfl, sa3', _, rfl, _, rfl, p, C, dx, fs, rfl, mem, h2, p, _, _, _, rfl, sa3', _, rfl, _, rfl, p, C, dx, fs, _, u, rfl, h2, fc.cl, con, h11,
      _, rfl, p, C, dx, fs, rfl, mem, h2, p, _, _, _, rfl, sa3', _, rfl, p, C, dx, fs, rfl, mem, h2, p, _, _, _, rfl, sa3', (by show 5 ≤ sizeLine; decide), fun l4 n4 => ?_⟩
    have re := rowsT_eq t
    obtain ⟨rest, er⟩ : ∃ rest, rowsT t = t.line :: rest := ⟨_, re⟩
    have eh : (sdT t).rows.headD "" = t.line := by
      show (rowsT t).headD "" = t.line
      rw [er]
      rfl
    have e4 := same_new (o := .lst [.str (Txt.join "\n" (rowsT t)), .str ("Statement(" ++ (sdT t).rows.headD "" ++ ")"), .str z, .int (amT t : Nat), .int (lvT t : Nat)]) n4
    have s04 := s03.trans e4
    have s14 := (s2.trans e3).trans e4
    have hl4 := s14 _ _ hl
    have le1 : ("Statement(" : Str).length = 10 := rfl
    have le2 : (")" : Str).length = 1 := rfl
    have ok := toldD_ok ro ll la
    refine ⟨⟨_, rfl⟩, _, rfl, "\n", l, rowsT t, rfl, rfl, .inl (SqL.of hl4), ?_, ?_⟩
    · obtain ⟨a1, a2, a3, a4, a5, a6, a7⟩ := ro
      have := sum_len (n := 210) fun r hr => by
        have := (a7 r hr).1
        omega
      have e : ("\n" : Str).length = 1 := rfl
      rw [e]
      omega
    refine ⟨_, rfl, l, _, _, .str t.line, rfl, rfl, SqL.of hl4, atI_nat (j := 0) (by rw [er]; rfl), _, _, rfl, rfl, len5000 (by omega), _, _, rfl, rfl, len5000 (by rw [app_length]; omega), ?_⟩
    refine ⟨_, rfl, pt, _, _, _, rfl, rfl, (KpT.of_same (e3.trans e4)).sq hq, atI_nat (j := 0) rfl, ?_⟩
    refine ⟨_, rfl, (by show 1 ≤ sizeLine; decide), fun q1 m1 => ?_⟩
    have e5 := same_new (o := .lst [.ref pt]) m1
    have s05 := s04.trans e5
    refine ⟨q1, [pt], [t], rfl, .inl (SqL.of upd_same), .cons (trt.mv (KpT.of_same s05)) .nil, ?_, ?_, fun H6 s6 => ?_⟩
    · rw [lvB_cons, lvB_nil]
      omega
    · rw [amB_cons, amB_nil]
      omega
    have s06 := s05.trans s6
    refine ⟨_, rfl, pt, t, rfl, trt.mv (KpT.of_same s06), by omega, by omega, fun H7 s7 => ⟨(by show 5 ≤ sizeLine; decide), fun l5 n5 => ?_⟩⟩
    have e8 := same_new (o := .lst [.str (Txt.join "\n" (rowsT t)), .str ("Statement(" ++ t.line ++ ")"), .str z, .int (amB [t] : Nat), .int (lvT t : Nat)]) n5
    have ea : (((amB [t] : Nat)) : Int) = ((amT t : Nat) : Int) := by
      rw [amB_cons, amB_nil]
      rfl
    have s48 := ((e5.trans s6).trans s7).trans e8
    have dp : ∀ H9, DpAll K H9 [V.str (Txt.join "\n" (rowsT t)), .str ("Statement(" ++ t.line ++ ")"), .str z, .int (amT t : Nat), .int (lvT t : Nat)] [.str (Txt.join "\n" (rowsT t)), .str ("Statement(" ++ t.line ++ ")"), .str (kwords.getD t.k ""), .int (amT t : Nat), .int (lvT t : Nat)] := by
      intro H9
      rw [ez]
      exact .cons (.str _) (.cons (.str _) (.cons (.str _) (.cons (.int _) (.cons (.int _) .nil))))
    have dp4 : ∀ H9, DpAll K H9 [V.str (Txt.join "\n" (rowsT t)), .str ("Statement(" ++ (sdT t).rows.headD "" ++ ")"), .str z, .int (amT t : Nat), .int (lvT t : Nat)] [.str (Txt.join "\n" (rowsT t)), .str ("Statement(" ++ t.line ++ ")"), .str (kwords.getD t.k ""), .int (amT t : Nat), .int (lvT t : Nat)] := by
      intro H9
      rw [eh]
      exact dp H9
    refine ⟨_, rfl, l4, toldD t, rfl, .lst (SqL.of (s48 _ _ upd_same)) (dp4 _), ok.1, ok.2.1, ok.2.2.1, ok.2.2.2, ?_⟩
    refine ⟨_, rfl, l5, toldD t, rfl, .lst (SqL.of upd_same) (by rw [← ea] at dp; exact dp _), ok.1, ok.2.1, ok.2.2.1, ok.2.2.2, rfl, ?_⟩
    have s08 := ((s06.trans s7).trans e8)
    show Q (.bl (decide (V.str (toldD t).shown = V.str (toldD t).shown))) _
    rw [decide_eq_true rfl]
    exact q _ s08
end
end K04
set_option Elab.async false
set_option linter.all false
set_option maxRecDepth 100000
set_option maxHeartbeats 4000000
namespace K04
open PySem PySem.Spec PyProof.Rows L2 Mo
theorem four_of {zs : List Str} (h : (zs.length : Int) = 4) : ∃ a b c d, zs = [a, b, c, d] := by
  have h : zs.length = 4 := by omega
  match zs, h with
  | [a, b, c, d], _ => exact ⟨a, b, c, d, rfl⟩
/-- a tree that is to be made -/
structure Good (t : Tr) : Prop where
  k : 7 ≤ t.k
  lv : lvT t ≤ 5
  am : amT t ≤ 40
  ok : okT t = true
section
variable {w : World} {K : PySem.W.Frag} {mg : Str → Option Value} {base : Heap} {A : Ads}
def spEqT (K : PySem.W.Frag) (A : Ads) : Sp := fun vs H Q _ => ∃ p d bs os y, vs = [.ref p, y] ∧ StAt K A H p d bs os ∧ ((∃ q e b2 o2, y = .ref q ∧ StAt K A H q e b2 o2 ∧ Q (.bl (decide (d.rows = e.rows))) H) ∨ ∃ n : Ty7, TyX K H y (.type n.nm) ∧ Q (.bl false) H)
theorem ok_eqT (T : Txt K mg A) : FnOk P w K mg base CX0 1 A.a_Statement___eq__ A.d_Statement___eq__ ["self", "other"] (spEqT K A) := by
  have nd := sc_Statement___eq__.nd
  refine T.f_Statement___eq__.ok sc_Statement___eq__ (fun vs H Q E h => ?_) (fun cdv A' outer s H vs Q E hr h => ?_)
  · obtain ⟨p, d, bs, os, y, rfl, _⟩ := h
    rfl
  · obtain ⟨p, d, bs, os, y, rfl, ⟨C, dx, fs, ps, pr, pb, po, h1, h2, h3, h4, h5, h6, h7, h8, h9, h10, h11, h12⟩, h⟩ := h
    have fc := T.fam C (List.mem_of_getElem? h1)
    refine ⟨_, (pss_one (ps_ret (pe_and (pe_callB call_isi (by rfl) T.b_isinstance (by decide +kernel) (pa_cons (pv 1) (pa_cons (pe_gR T.m_Statement) pa_nil))) (pe_one (pe_cmpR (op_eqD hr.units) (pe_fld (pv 0) rfl) (pe_fld (pv 1) rfl) (nomark _)))))), ?_⟩
    rcases h with ⟨q, e, b2, o2, rfl, ⟨C', dx', fs', ps', pr', pb', po', g1, g2, g3, g4, g5, g6, g7, g8, g9, g10, g11, g12⟩, k⟩ | ⟨n, th, k⟩
    · have fc' := T.fam C' (List.mem_of_getElem? g1)
      refine ⟨_, rfl, _, _, _, _, _, rfl, .own _, fc'.ty _ _ _ _ g2, (T.sub C' (List.mem_of_getElem? g1)).2, _, rfl, ?_⟩
      refine ⟨_, rfl, p, C, dx, _, _, rfl, h2, fc.cl, fc.na _ (by decide +kernel), h5, ?_⟩
      refine ⟨_, rfl, q, C', dx', _, _, rfl, g2, fc'.cl, fc'.na _ (by decide +kernel), g5, ?_⟩
      refine ⟨rowsD d.rows, rowsD e.rows, .tup (SqT.of h6) (dp_strs _), .tup (SqT.of g6) (dp_strs _), shaped_rows h12.aln, shaped_rows g12.aln, ?_⟩
      rw [eqv_rows h12.aln g12.aln]
      exact k
    · exact ⟨_, rfl, _, _, _, _, _, rfl, .own _, th, T.famB.ki7 n, _, rfl, k⟩
theorem rows_list {a b : List Str} (ha : ∀ r ∈ a, AlnT r) (hb : ∀ r ∈ b, AlnT r) : PyData.eqv (.list (a.map PyData.str)) (.list (b.map PyData.str)) = decide (a = b) := by
  have pa : Pl (.list (a.map PyData.str)) := by
    rw [Pl]
    exact plAll_strs ha
  have pb : Pl (.list (b.map PyData.str)) := by
    rw [Pl]
    exact plAll_strs hb
  by_cases e : a = b
  · subst e
    rw [eqv_refl_plain pa, decide_eq_true rfl]
  · rw [decide_eq_false e]
    cases z : PyData.eqv (.list (a.map PyData.str)) (.list (b.map PyData.str)) with
    | false => rfl
    | true =>
      have := eqv_plain pa pb z
      injection this with this
      exact absurd (strs_inj this) e
theorem bl_repr (b : Bool) : (PyData.list [.bool b, .bool (!b)]).showable = true ∧ (PyData.list [.bool b, .bool (!b)]).hasDict = false ∧ (PyData.list [.bool b, .bool (!b)]).depth ≤ 60 ∧ (PyData.list [.bool b, .bool (!b)]).shown.length ≤ sizeLine := by
  cases b
  · exact ⟨by decide +kernel, by decide +kernel, by decide +kernel, by decide +kernel⟩
  · exact ⟨by decide +kernel, by decide +kernel, by decide +kernel, by decide +kernel⟩
def spRight : Sp := fun vs H Q _ => ∃ a : Addr, vs = [.ref a] ∧ Src H a ∧ ∀ H', KeepBut a H H' → Q (.bl true) H'
theorem ok_law_right (T : Txt K mg A) : FnG P w K mg base CX0 24 A.a_law_right A.d_law_right ["_law_source_here"] spRight := by
  have nd := sc_law_right.nd
  refine Fun_okG T.f_law_right sc_law_right (fun vs H Q E h => ?_) (fun cdv A' outer s H vs Q E hr hG h => ?_)
  · obtain ⟨a, rfl, _⟩ := h
    rfl
  · obtain ⟨a, rfl, src, q⟩ := h
    refine ⟨_, (pss_cons (ps_set (i := 1) nd rfl (Or.inl rfl) (pe_call (ok_law_words T) (hr.mono (by decide)) (by rfl) T.m_law_words T.k_law_words T.v_law_words .nil pass0 (pa_cons (pv 0) (pa_cons pe_int pa_nil))))
      (pss_cons (ps_set (i := 2) nd rfl (Or.inl rfl) (pe_lst (pa_cons (pv 1) (pa_cons (pe_slice sl_list (pv 1) po_none (po_some pe_int)) (pa_cons (pe_slice sl_list (pv 1) (po_some pe_int) po_none) pa_nil)))))
      (pss_cons (ps_set (i := 3) nd rfl (Or.inl rfl) (pe_lst (pa_cons (pe_call (ok_law_holder T) (hr.mono (by decide)) (by rfl) T.m_law_holder T.k_law_holder T.v_law_holder .nil pass0 (pa_cons (pv 0) (pa_cons (pv 2) pa_nil))) (pa_cons (pe_call (ok_law_holder T) (hr.mono (by decide)) (by rfl) T.m_law_holder T.k_law_holder T.v_law_holder .nil pass0 (pa_cons (pv 0) (pa_cons (pv 2) pa_nil))) pa_nil))))
      (pss_cons (ps_for PassesOwn.never rfl (pi_list (pe_callTy call_list_of (by rfl) T.b_list (by decide +kernel) (pa_cons (pv 3) pa_nil))) (pg_name (i := 4) nd rfl (Or.inl rfl)) (pss_cons (ps_set (i := 8) nd rfl (Or.inl rfl) (pe_call (ok_law_bent T) (hr.mono (by decide)) (by rfl) T.m_law_bent T.k_law_bent T.v_law_bent .nil pass0 (pa_cons (pv 0) (pa_cons (pv 4) pa_nil))))
      (pss_one (ps_if (PW.pt (pw_and (pt_cmpR op_lt (pe_call (ok_law_height T 8) (hr.mono (by decide)) (by rfl) T.m_law_height T.k_law_height T.v_law_height .nil pass0 (pa_cons (pv 8) pa_nil)) pe_int (nomark _)) (pw_and1 (pt_cmpR op_lt (pe_call (ok_law_size T 8) (hr.mono (by decide)) (by rfl) T.m_law_size T.k_law_size T.v_law_size .nil pass0 (pa_cons (pe_lst (pa_cons (pv 8) pa_nil)) pa_nil)) pe_int (nomark _))))) (pss_one (ps_expr (pe_bm PySem.F.plainAttrs_list PySem.F.slot_list_append PySem.F.type_list_append mt_append (pv 3) (pa_cons (pv 8) pa_nil)))) pss_nil))))
      (pss_cons (ps_setLc (i := 5) (own := [("_law_tree", 4)]) (g := gName 4) (tt := tYes) rfl nd rfl rfl (sw_true rfl rfl rfl (by decide +kernel)) (pi_list (pv 3)) (blkOk_by (N := nm_law_right) (sc := defScope st_law_right) (by decide +kernel)) (fun _ _ _ _ _ => (pg_name (i := 4) nd rfl (Or.inl rfl))) (fun _ _ _ _ _ => pts_nil) (fun _ _ _ _ _ => (pe_call (ok_law_made T) (hr.mono (by decide)) (by rfl) T.m_law_made T.k_law_made T.v_law_made .nil pass0 (pa_cons (pv 0) (pa_cons (pv 4) pa_nil)))))
      (pss_cons (ps_setLc (i := 6) (own := [("_law_tree", 4)]) (g := gName 4) (tt := tYes) rfl nd rfl rfl (sw_true rfl rfl rfl (by decide +kernel)) (pi_list (pv 3)) (blkOk_by (N := nm_law_right) (sc := defScope st_law_right) (by decide +kernel)) (fun _ _ _ _ _ => (pg_name (i := 4) nd rfl (Or.inl rfl))) (fun _ _ _ _ _ => pts_nil) (fun _ _ _ _ _ => (pe_call (ok_law_made T) (hr.mono (by decide)) (by rfl) T.m_law_made T.k_law_made T.v_law_made .nil pass0 (pa_cons (pv 0) (pa_cons (pv 4) pa_nil)))))
      (pss_cons (ps_for PassesOwn.never rfl (pi_range1 (by rfl) T.b_range (pa_cons (pe_callB call_len_seq (by rfl) T.b_len (by decide +kernel) (pa_cons (pv 3) pa_nil)) pa_nil)) (pg_name (i := 7) nd rfl (Or.inl rfl)) (pss_cons (ps_if (PW.pt (pw_or (pt_not (pt_val (pe_callG (ok_law_is T) (hr.mono (by decide)) hG (by rfl) T.m_law_is T.k_law_is T.v_law_is .nil pass0 (pa_cons (pe_ix ix_list (pv 5) (pv 7) (fun _ _ => rfl)) (pa_cons (pe_ix ix_list (pv 3) (pv 7) (fun _ _ => rfl)) pa_nil))))) (pw_or (pt_cmpR (op_eqF (ok_eqT T) (hr.mono (by decide)) T.sp_Statement___eq__ T.v_Statement___eq__ pass0) (pe_ix ix_list (pv 5) (pv 7) (fun _ _ => rfl)) (pe_callTy (call_strF (ok_Statement___str__ T) (hr.mono (by decide)) T.sp_Statement___str__ T.v_Statement___str__ pass0) (by rfl) T.b_str (by decide +kernel) (pa_cons (pe_ix ix_list (pv 5) (pv 7) (fun _ _ => rfl)) pa_nil)) (nomark _)) (pw_or1 (pt_cmpR (op_eqF (ok_eqT T) (hr.mono (by decide)) T.sp_Statement___eq__ T.v_Statement___eq__ pass0) (pe_ix ix_list (pv 5) (pv 7) (fun _ _ => rfl)) pe_non (nomark _)))))) (pss_one (ps_ret pe_bl)) pss_nil)
      (pss_one (ps_for PassesOwn.never rfl (pi_range1 (by rfl) T.b_range (pa_cons (pe_callB call_len_seq (by rfl) T.b_len (by decide +kernel) (pa_cons (pv 3) pa_nil)) pa_nil)) (pg_name (i := 9) nd rfl (Or.inl rfl)) (pss_cons (ps_set (i := 10) nd rfl (Or.inl rfl) (pe_cmpR (op_eqD hr.units) (pe_call (ok_law_lines T 8) (hr.mono (by decide)) (by rfl) T.m_law_lines T.k_law_lines T.v_law_lines .nil pass0 (pa_cons (pe_tup (pa_cons (pe_ix ix_list (pv 3) (pv 7) (fun _ _ => rfl)) pa_nil)) (pa_cons pe_str pa_nil))) (pe_call (ok_law_lines T 8) (hr.mono (by decide)) (by rfl) T.m_law_lines T.k_law_lines T.v_law_lines .nil pass0 (pa_cons (pe_tup (pa_cons (pe_ix ix_list (pv 3) (pv 9) (fun _ _ => rfl)) pa_nil)) (pa_cons pe_str pa_nil))) (nomark _)))
      (pss_one (ps_if (pt_cmpR op_ne (pe_callB (call_repr hr hG) (by rfl) T.b_repr (by decide +kernel) (pa_cons (pe_lst (pa_cons (pe_cmpR (op_eqF (ok_eqT T) (hr.mono (by decide)) T.sp_Statement___eq__ T.v_Statement___eq__ pass0) (pe_ix ix_list (pv 5) (pv 7) (fun _ _ => rfl)) (pe_ix ix_list (pv 6) (pv 9) (fun _ _ => rfl)) (nomark _)) (pa_cons (pe_cmpR (op_neF (ok_eqT T) (hr.mono (by decide)) (fun C h => ⟨T.sp_Statement___eq__ C h, (T.fam C h).ne, (T.fam C h).mo⟩) T.v_Statement___eq__ pass0) (pe_ix ix_list (pv 6) (pv 9) (fun _ _ => rfl)) (pe_ix ix_list (pv 5) (pv 7) (fun _ _ => rfl)) (nomark _)) pa_nil))) pa_nil)) (pe_callB (call_repr hr hG) (by rfl) T.b_repr (by decide +kernel) (pa_cons (pe_lst (pa_cons (pv 10) (pa_cons (pe_not (pv 10)) pa_nil))) pa_nil)) (nomark _)) (pss_one (ps_ret pe_bl)) pss_nil)))))))
      (pss_one (ps_ret pe_bl))))))))), ?_⟩
    refine ⟨_, rfl, a, _, rfl, src, by decide, by decide, fun pn zs H1 npn hpn lz nz dz src1 kb1 => ?_⟩
    obtain ⟨z0, z1, z2, z3, rfl⟩ := four_of lz
    refine ⟨_, rfl, _, rfl, 2, rfl, pn, _, rfl, SqL.of hpn, fun p2 n2 => ?_⟩
    have e2 := same_new (o := .lst (([z0, z1] : List Str).map V.str)) n2
    refine ⟨_, rfl, 2, rfl, ?_⟩
    refine noPart ⟨pn, _, rfl, SqL.of (e2 _ _ hpn), fun p3 n3 => ⟨(by show 3 ≤ sizeLine; decide), fun wl nwl => ?_⟩⟩
    have e3 := same_new (o := .lst (([z2, z3] : List Str).map V.str)) n3
    have ew := same_new (o := .lst [.ref pn, .ref p2, .ref p3]) nwl
    have s1w := (e2.trans e3).trans ew
    have srcw := src1.same s1w
    have kbw := kb1.trans (KeepBut.of_same s1w)
    have hw : WorldAt _ wl := ⟨pn, p2, p3, [z0, z1, z2, z3], [z0, z1], [z2, z3], upd_same, s1w _ _ hpn, (e3.trans ew) _ _ upd_same, ew _ _ upd_same, by show 1 ≤ 4; decide, by show 4 ≤ 10; decide, by show 1 ≤ 2; decide, by show 2 ≤ 10; decide, by show 1 ≤ 2; decide, by show 2 ≤ 10; decide, nz, fun z hz => nz z (by simp only [List.mem_cons, List.not_mem_nil, or_false] at hz ⊢; rcases hz with rfl | rfl <;> simp), fun z hz => nz z (by simp only [List.mem_cons, List.not_mem_nil, or_false] at hz ⊢; rcases hz with rfl | rfl <;> simp)⟩
    refine ⟨_, rfl, _, rfl, a, wl, rfl, srcw, hw, fun q1 t1 H3 tr1 k1 lv1 am1 ok1 src3 kb3 => ?_⟩
    refine ⟨_, rfl, _, rfl, a, wl, rfl, src3, hw.mv srcw kb3, fun q2 t2 H4 tr2 k2 lv2 am2 ok2 src4 kb4 => ⟨(by show 2 ≤ sizeLine; decide), fun l3 n5 => ?_⟩⟩
    have e5 := same_new (o := .lst [.ref q1, .ref q2]) n5
    have src5 := src4.same e5
    have kb5 := ((kbw.trans kb3).trans kb4).trans (KeepBut.of_same e5)
    have nl3 : l3 ≠ a := src4.fresh n5
    have tr1' := (tr1.mv (src3.kp kb4)).mv (KpT.of_same e5)
    have tr2' := tr2.mv (KpT.of_same e5)
    obtain ⟨H5, eH⟩ : ∃ H5, H5 = upd H4 l3 (.lst [.ref q1, .ref q2]) := ⟨_, rfl⟩
    rw [← eH] at src5 kb5 tr1' tr2'
    have hl3 : H5 l3 = some (.lst [.ref q1, .ref q2]) := by rw [eH]; exact upd_same
    have trs : TrsAt K H5 [q1, q2] [t1, t2] := .cons tr1' (.cons tr2' .nil)
    have gd : ∀ t ∈ [t1, t2], Good t := by
      intro t ht
      rcases List.mem_cons.mp ht with rfl | ht
      · exact ⟨k1, lv1, am1, ok1⟩
      · rw [List.mem_singleton.mp ht]
        exact ⟨k2, lv2, am2, ok2⟩
    rw [← eH]
    refine ⟨_, rfl, l3, _, rfl, Or.inl (SqL.of hl3), fun l4 n6 => ?_⟩
    have e6 := same_new (o := .lst [.ref q1, .ref q2]) n6
    have nl4 : l4 ≠ a := src5.fresh n6
    have n43 : l4 ≠ l3 := (ne_of_none hl3 n6).symm
    refine ⟨l4, rfl, ⟨_, SqL.of upd_same⟩, for_it (walk_list (K := K) (a := l4) (xs := [.ref q1, .ref q2])) (fun i σ H6 => ∃ (v4 v5 v6 v7 v8 v9 v10 : Option V) (ps : List Addr) (ts : List Tr), σ = [some (.ref a), some (.ref pn), some (.ref wl), some (.ref l3), v4, v5, v6, v7, v8, v9, v10] ∧ (∀ b o, b ≠ a → b ≠ l3 → (upd H5 l4 (.lst [.ref q1, .ref q2])) b = some o → H6 b = some o) ∧ Src H6 a ∧ H6 l3 = some (.lst (ps.map V.ref)) ∧ TrsAt K H6 ps ts ∧ ts.length ≤ 2 + i ∧ ∀ t ∈ ts, Good t) ⟨_, _, _, _, _, _, _, [q1, q2], [t1, t2], rfl, fun b o _ _ h => h, src5.same e6, e6 _ _ hl3, trs.mv (KpT.of_same e6), Nat.le_refl _, gd⟩ (fun i σ H6 _ h => ?_) ?_ ?_⟩
    · obtain ⟨v4, v5, v6, v7, v8, v9, v10, ps, ts, rfl, kp, _⟩ := h
      exact SqL.of (kp _ _ nl4 n43 upd_same)
    · rintro i x σ H6' H6 hi ⟨v4, v5, v6, v7, v8, v9, v10, ps, ts, rfl, kp, s6, h3, tr6, lt6, gd6⟩ ⟨rfl, hx⟩
      have hx : ([q1, q2].map V.ref)[i]? = some x := hx
      rw [List.getElem?_map] at hx
      obtain ⟨r, hr2, rfl⟩ := Option.map_eq_some_iff.mp hx
      obtain ⟨t, ht, trt⟩ := trs.get hr2
      have g := gd t (List.mem_of_getElem? ht)
      have kp6 : KpT H5 H6 := by
        obtain ⟨x1, y1, c1, ea, _⟩ := src5
        refine ⟨fun x xs h => kp _ _ (ne_of h ea (by intro z; cases z)) (ne_of h hl3 (by intro z; cases z)) (e6 _ _ h), fun x o xs h => kp _ _ (ne_of h ea (by intro z; cases z)) (ne_of h hl3 (by intro z; cases z)) (e6 _ _ h), fun x C dx fs h _ => kp _ _ (ne_of h ea (by intro z; cases z)) (ne_of h hl3 (by intro z; cases z)) (e6 _ _ h)⟩
      have llen := tr6.len
      have hi2 : i < 2 := hi
      refine ⟨_, rfl, _, rfl, a, r, t, rfl, s6, trt.mv kp6, g.k, g.lv, g.am, g.ok, fun p' u H7 tru k' lv' am' ok' s7 kb7 => ?_⟩
      refine ⟨_, rfl, p', u, rfl, tru, by omega, by omega, fun H8 s8 => ⟨_, _, rfl, rfl, _, rfl, ?_⟩⟩
      have kp8 : ∀ b o, b ≠ a → b ≠ l3 → (upd H5 l4 (.lst [.ref q1, .ref q2])) b = some o → H8 b = some o := fun b o n1 n2 h => s8 _ _ (kb7 _ _ n1 (kp _ _ n1 n2 h))
      have h38 := s8 _ _ (kb7 _ _ nl3 h3)
      have tr8 := (tr6.mv (s6.kp kb7)).mv (KpT.of_same s8)
      have src8 := s7.same s8
      refine ite2 (fun hl => ?_) (fun _ => ?_)
      rotate_left
      · exact ⟨_, _, _, _, _, _, _, ps, ts, rfl, kp8, src8, h38, tr8, by omega, gd6⟩
      have hl : decide (((lvT u : Nat) : Int) < 6) = true := hl
      have hl := of_decide_eq_true hl
      refine ⟨_, rfl, (by show 1 ≤ sizeLine; decide), fun r1 m1 => ?_⟩
      have f1 := same_new (o := .lst [.ref p']) m1
      refine ⟨r1, [p'], [u], rfl, .inl (SqL.of upd_same), .cons (tru.mv (KpT.of_same (s8.trans f1))) .nil, ?_, ?_, fun H9 s9 => ⟨_, _, rfl, rfl, _, rfl, ?_⟩⟩
      · rw [lvB_cons, lvB_nil]
        omega
      · rw [amB_cons, amB_nil]
        omega
      have s89 := f1.trans s9
      have kp9 : ∀ b o, b ≠ a → b ≠ l3 → (upd H5 l4 (.lst [.ref q1, .ref q2])) b = some o → H9 b = some o := fun b o n1 n2 h => s89 _ _ (kp8 _ _ n1 n2 h)
      have h39 := s89 _ _ h38
      refine ite2 (fun hz => ?_) (fun _ => ?_)
      rotate_left
      · exact ⟨_, _, _, _, _, _, _, ps, ts, rfl, kp9, src8.same s89, h39, tr8.mv (KpT.of_same s89), by omega, gd6⟩
      have hz : decide (((amB [u] : Nat) : Int) < 41) = true := hz
      have hz := of_decide_eq_true hz
      rw [amB_cons, amB_nil] at hz
      have k9 := KpT.lst h39 (KeepBut.upd l3 H9 (.lst (ps.map V.ref ++ [.ref p'])))
      refine ⟨_, rfl, Or.inl ⟨rfl, _, SqL.of h39⟩, _, rfl, l3, _, _, rfl, rfl, h39, ?_, ?_⟩
      · rw [List.length_map]
        exact lt5000 (by omega)
      · refine ⟨_, _, _, _, _, _, _, ps ++ [p'], ts ++ [u], rfl, fun b o n1 n2 h => ?_, (src8.same s89).upd nl3, ?_, ?_, ?_, ?_⟩
        · rw [upd_ne n2]
          exact kp9 _ _ n1 n2 h
        · rw [upd_same, List.map_append]
          rfl
        · exact ((tr8.mv (KpT.of_same s89)).mv k9).app (.cons (((tru.mv (KpT.of_same s8)).mv (KpT.of_same s89)).mv k9) .nil)
        · rw [List.length_append]
          show ts.length + 1 ≤ 2 + (i + 1)
          omega
        · intro v hv
          rcases List.mem_append.mp hv with hv | hv
          · exact gd6 v hv
          · rw [List.mem_singleton.mp hv]
            exact ⟨k', by omega, by omega, ok'⟩
    rintro σ H6 ⟨v4, v5, v6, v7, v8, v9, v10, ps, ts, rfl, kp, s6, h3, tr6, lt6, gd6⟩
    have kb6 : KeepBut a H H6 := by
      intro b o nb e
      have kb4' : KeepBut a H H4 := (kbw.trans kb3).trans kb4
      have n3 : b ≠ l3 := ne_of_none (kb4' _ _ nb e) n5
      exact kp _ _ nb n3 (e6 _ _ (kb5 _ _ nb e))
    have ltr := tr6.len
    have ts4 : ts.length ≤ 4 := lt6
    refine ⟨_, rfl, l3, rfl, ⟨_, SqL.of h3⟩, fun D hD => made_lc (A := A) (W := walk_list (K := K) (a := l3) (xs := ps.map V.ref)) (i6 := 4) (a := a) (pbs := ps) (ts := ts) (fun i H x H' h => h) (by rw [List.length_map]) (fun H' k => SqL.of (k _ _ nl3 h3)) tr6 s6 hD (fun r u H7 R mu tru s7 k => ⟨_, rfl, _, rfl, a, r, u, rfl, s7, tru, (gd6 u mu).lv, (gd6 u mu).lv, (gd6 u mu).am, (gd6 u mu).ok, k⟩) (fun _ => rfl) (by omega) (fun H7 ms kb7 s7 hd7 st7 => ?_)⟩
    have nD : D ≠ a := s6.fresh hD
    have h37 := kb7 _ _ nl3 h3
    have tr7 := tr6.mv (s6.kp kb7)
    refine ⟨_, rfl, l3, rfl, ⟨_, SqL.of h37⟩, fun D2 hD2 => made_lc (A := A) (W := walk_list (K := K) (a := l3) (xs := ps.map V.ref)) (i6 := 4) (a := a) (pbs := ps) (ts := ts) (fun i H x H' h => h) (by rw [List.length_map]) (fun H' k => SqL.of (k _ _ nl3 h37)) tr7 s7 hD2 (fun r u H7 R mu tru s7 k => ⟨_, rfl, _, rfl, a, r, u, rfl, s7, tru, (gd6 u mu).lv, (gd6 u mu).lv, (gd6 u mu).am, (gd6 u mu).ok, k⟩) (fun _ => rfl) (by omega) (fun H8 ns kb8 s8 hd8 sn8 => ?_)⟩
    have h38 := kb8 _ _ nl3 h37
    have hD8 := kb8 _ _ nD hd7
    have tr8 := tr7.mv (s7.kp kb8)
    have sm8 := st7.mv (s7.kp kb8)
    have kb08 : KeepBut a H H8 := (kb6.trans kb7).trans kb8
    have lm := sm8.len
    have ln := sn8.len
    refine ⟨_, rfl, l3, _, rfl, Or.inl (SqL.of h38), _, rfl, by omega, by rw [List.length_map]; omega, for_range (lo := 0) (n := (((ps.map V.ref).length : Nat) : Int).toNat) (fun i σ H9 => Same H8 H9 ∧ ∃ (v4 v7 v8 v9 v10 : Option V), σ = [some (.ref a), some (.ref pn), some (.ref wl), some (.ref l3), v4, some (.ref D), some (.ref D2), v7, v8, v9, v10]) ⟨Same.refl _, _, _, _, _, _, rfl⟩ ?_ ?_⟩
    · rintro i σ H9 hi ⟨s9, v4, v7, v8, v9, v10, rfl⟩
      have hi : i < ps.length := by
        rw [List.length_map] at hi
        omega
      have hm : i < ms.length := by omega
      have gp : ps[i]? = some ps[i] := List.getElem?_eq_getElem hi
      have gm : ms[i]? = some ms[i] := List.getElem?_eq_getElem hm
      obtain ⟨t, ht, trt⟩ := tr8.get gp
      obtain ⟨t', ht', stt⟩ := sm8.get gm
      have : some t = some t' := ht.symm.trans ht'
      cases this
      have at1 : ∀ {ls : List Addr} {x : Addr} {k : Nat}, ls[k]? = some x → atI (ls.map V.ref) (0 + (k : Int)) = some (.ref x) := by
        intro ls x k h
        rw [Int.zero_add]
        exact atI_nat (by rw [List.getElem?_map, h]; rfl)
      refine ⟨_, rfl, _, rfl, D, _, _, _, rfl, rfl, SqL.of (s9 _ _ hD8), at1 gm, _, rfl, _, rfl, l3, _, _, _, rfl, rfl, SqL.of (s9 _ _ h38), at1 gp, ms[i], ps[i], t, rfl, stt.mv (KpT.of_same s9), trt.mv (KpT.of_same s9), fun H10 s10 => ⟨_, rfl, ?_⟩⟩
      have s8a := s9.trans s10
      have hDa := s8a _ _ hD8
      obtain ⟨bs, os, sa, _, _⟩ := (stt.mv (KpT.of_same s8a)).at
      have sa' := sa
      obtain ⟨C, dx, fs, qs, pr, pb, po, h1, h2, g3, g4, g5, g6, g7, g8, g9, g10, g11, g12⟩ := sa
      have mem := List.mem_of_getElem? h1
      have fc := T.fam C mem
      refine ⟨_, rfl, _, rfl, D, _, _, _, rfl, rfl, SqL.of hDa, at1 gm, _, rfl, _, rfl, D, _, _, _, rfl, rfl, SqL.of hDa, at1 gm, ms[i], C, dx, fs, rfl, mem, h2, ms[i], _, _, _, rfl, sa', _, rfl, ?_⟩
      refine ⟨ms[i], C, dx, fs, _, rfl, mem, h2, .base (.str _), fc.nf7 .str, ms[i], _, _, _, _, rfl, sa', Or.inr ⟨.str, .base (.str _), false, rfl, _, rfl, ?_⟩⟩
      refine ⟨_, rfl, _, rfl, D, _, _, _, rfl, rfl, SqL.of hDa, at1 gm, ms[i], C, dx, fs, _, rfl, mem, h2, .base .non, fc.nf7 .non, ms[i], _, _, _, _, rfl, sa', Or.inr ⟨.non, .base .non, false, rfl, _, rfl, ?_⟩⟩
      have rot := g12
      have rat : ∀ r ∈ rowsT t, AlnT r := rot.aln
      have lvt : lvT t ≤ 5 := rot.2.2.2.1
      have amt : amT t ≤ 40 := rot.2.1
      refine ⟨_, rfl, l3, _, rfl, Or.inl (SqL.of (s8a _ _ h38)), _, rfl, by omega, by rw [List.length_map]; omega, for_range (lo := 0) (n := (((ps.map V.ref).length : Nat) : Int).toNat) (fun j σ H11 => Same H8 H11 ∧ ∃ (v4 v8 v9 v10 : Option V), σ = [some (.ref a), some (.ref pn), some (.ref wl), some (.ref l3), v4, some (.ref D), some (.ref D2), some (.int (0 + (i : Int))), v8, v9, v10]) ⟨s8a, _, _, _, _, rfl⟩ ?_ ?_⟩
      · rintro j σ H11 hj ⟨s11, v4, v8, v9, v10, rfl⟩
        have hj : j < ps.length := by
          rw [List.length_map] at hj
          omega
        have hn : j < ns.length := by omega
        have gpj : ps[j]? = some ps[j] := List.getElem?_eq_getElem hj
        have gn : ns[j]? = some ns[j] := List.getElem?_eq_getElem hn
        obtain ⟨u, hu, tru⟩ := tr8.get gpj
        obtain ⟨u', hu', stu⟩ := sn8.get gn
        have : some u = some u' := hu.symm.trans hu'
        cases this
        obtain ⟨b2, o2, sb, _, _⟩ := stu.at
        have rou : RowsOk (amT u) (lvT u) (rowsT u) := sb.ok
        have rau : ∀ r ∈ rowsT u, AlnT r := rou.aln
        have lvu : lvT u ≤ 5 := rou.2.2.2.1
        have amu : amT u ≤ 40 := rou.2.1
        -- the lines of both
        refine ⟨_, rfl, _, rfl, l3, _, _, _, rfl, rfl, SqL.of (s11 _ _ h38), at1 gp, (by show 1 ≤ sizeLine; decide), fun r1 m1 => ?_⟩
        have f1 := same_new (o := .tup [.ref ps[i]]) m1
        refine ⟨r1, [ps[i]], [t], "", rfl, .inr (SqT.of upd_same), .cons (trt.mv (KpT.of_same (s11.trans f1))) .nil, ?_, ?_, ?_, ?_, fun la H12 s12 nla hla => ?_⟩
        · rw [lvB_cons, lvB_nil]
          omega
        · rw [lvB_cons, lvB_nil]
          omega
        · rw [amB_cons, amB_nil]
          omega
        · rw [lvB_cons, lvB_nil]
          show 0 + _ ≤ 100
          omega
        rw [rowsB_cons, rowsB_nil, List.append_nil, pre_nil] at hla
        have s8c := (s11.trans f1).trans s12
        refine ⟨_, rfl, _, rfl, l3, _, _, _, rfl, rfl, SqL.of (s8c _ _ h38), at1 gpj, (by show 1 ≤ sizeLine; decide), fun r2 m2 => ?_⟩
        have f2 := same_new (o := .tup [.ref ps[j]]) m2
        refine ⟨r2, [ps[j]], [u], "", rfl, .inr (SqT.of upd_same), .cons (tru.mv (KpT.of_same (s8c.trans f2))) .nil, ?_, ?_, ?_, ?_, fun lb H13 s13 nlb hlb => ?_⟩
        · rw [lvB_cons, lvB_nil]
          omega
        · rw [lvB_cons, lvB_nil]
          omega
        · rw [amB_cons, amB_nil]
          omega
        · rw [lvB_cons, lvB_nil]
          show 0 + _ ≤ 100
          omega
        rw [rowsB_cons, rowsB_nil, List.append_nil, pre_nil] at hlb
        have s8d := (s8c.trans f2).trans s13
        refine ⟨.list ((rowsT t).map PyData.str), .list ((rowsT u).map PyData.str), .lst (SqL.of ((f2.trans s13) _ _ hla)) (dp_strs _), .lst (SqL.of hlb) (dp_strs _), shaped_strs fun y hy => AlnT.asc (rat y hy), shaped_strs fun y hy => AlnT.asc (rau y hy), ?_⟩
        rw [rows_list rat rau]
        obtain ⟨al, eal⟩ : ∃ al, al = decide (rowsT t = rowsT u) := ⟨_, rfl⟩
        rw [← eal]
        have eal2 : decide (rowsT u = rowsT t) = al := by
          rw [eal, Bool.eq_iff_iff]
          simp only [decide_eq_true_eq]
          exact ⟨Eq.symm, Eq.symm⟩
        obtain ⟨b1, o1, si, _, _⟩ := (stt.mv (KpT.of_same s8d)).at
        obtain ⟨b3, o3, sj, _, _⟩ := (stu.mv (KpT.of_same s8d)).at
        have si' := si
        have sj' := sj
        obtain ⟨C1, dx1, fs1, ps1, pr1, pb1, po1, i1, i2, i3, i4, i5, i6, i7, i8, i9, i10, i11, i12⟩ := si
        obtain ⟨C2, dx2, fs2, ps2, pr2, pb2, po2, j1, j2, j3, j4, j5, j6, j7, j8, j9, j10, j11, j12⟩ := sj
        have mC := List.mem_of_getElem? i1
        have mC' := List.mem_of_getElem? j1
        have tyj := (T.fam C2 mC').ty _ _ _ _ j2
        have tyi := (T.fam C1 mC).ty _ _ _ _ i2
        have nf := (T.tab _ _ C1 C2 i1 j1).2
        have nf2 := (T.tab _ _ C2 C1 j1 i1).2
        have er : decide ((sdT t).rows = (sdT u).rows) = al := eal.symm
        have er2 : decide ((sdT u).rows = (sdT t).rows) = al := eal2
        have hDd := s8d _ _ hD8
        have hD2d := s8d _ _ hd8
        refine ⟨_, rfl, _, rfl, D, _, _, _, rfl, rfl, SqL.of hDd, at1 gm, _, rfl, _, rfl, D2, _, _, _, rfl, rfl, SqL.of hD2d, at1 gn, ms[i], C1, dx1, fs1, _, rfl, mC, i2, tyj, nf, ms[i], _, _, _, _, rfl, si', Or.inl ⟨ns[j], _, _, _, rfl, sj', _, rfl, ?_⟩⟩
        refine ⟨_, rfl, _, rfl, D2, _, _, _, rfl, rfl, SqL.of hD2d, at1 gn, _, rfl, _, rfl, D, _, _, _, rfl, rfl, SqL.of hDd, at1 gm, ns[j], C2, dx2, fs2, _, rfl, mC', j2, tyi, nf2, ns[j], _, _, _, _, rfl, sj', Or.inl ⟨ms[i], _, _, _, rfl, si', _, rfl, (by show 2 ≤ sizeLine; decide), fun r3 m3 => ?_⟩⟩
        rw [er, er2]
        have bo := bl_repr al
        have f3 := same_new (o := .lst [.bl al, .bl (!al)]) m3
        refine ⟨r3, .list [.bool al, .bool (!al)], rfl, .lst (SqL.of upd_same) (.cons (.bl _) (.cons (.bl _) .nil)), bo.1, bo.2.1, bo.2.2.1, bo.2.2.2, ?_⟩
        refine ⟨_, rfl, _, rfl, al, rfl, (by show 2 ≤ sizeLine; decide), fun r4 m4 => ⟨r4, .list [.bool al, .bool (!al)], rfl, .lst (SqL.of upd_same) (.cons (.bl _) (.cons (.bl _) .nil)), bo.1, bo.2.1, bo.2.2.1, bo.2.2.2, rfl, _, rfl, iteNS rfl ?_⟩⟩
        exact ⟨(s8d.trans f3).trans (same_new m4), _, _, _, _, rfl⟩
      · rintro σ H11 ⟨s11, v4, v8, v9, v10, rfl⟩
        exact ⟨s11, _, _, _, _, _, rfl⟩
    · rintro σ H9 ⟨s9, v4, v7, v8, v9, v10, rfl⟩
      exact q _ (kb08.trans (KeepBut.of_same s9))
end
end K04
set_option Elab.async false
set_option linter.all false
set_option maxRecDepth 100000
set_option maxHeartbeats 4000000
namespace K04
open PySem PySem.Spec PyProof.Rows L2 Mo
section
variable {w : World} {K : PySem.W.Frag} {mg : Str → Option Value} {base : Heap} {A : Ads}
theorem mem_Put : A.c_Put ∈ A.fam := List.mem_of_getElem? (show A.fam[1]? = some A.c_Put from rfl)
theorem mem_Leave : A.c_Leave ∈ A.fam := List.mem_of_getElem? (show A.fam[5]? = some A.c_Leave from rfl)
/-- two statements with the same rows -/
def Rst (K : PySem.W.Frag) (A : Ads) : Addr → Addr → Hp → Prop := fun a b H => ∃ d e b1 o1 b2 o2, StAt K A H a d b1 o1 ∧ StAt K A H b e b2 o2 ∧ d.rows = e.rows
theorem Rst_mon : ∀ a b H H', Ext H H' → Rst K A a b H → Rst K A a b H' := fun a b H H' e h => by
  obtain ⟨d, f, b1, o1, b2, o2, h1, h2, h3⟩ := h
  exact ⟨d, f, b1, o1, b2, o2, h1.mv (KpT.of_same e), h2.mv (KpT.of_same e), h3⟩
theorem ok_eqR (T : Txt K mg A) : FnOk P w K mg base CX0 1 A.a_Statement___eq__ A.d_Statement___eq__ ["self", "other"] (L2.spEq (Rst K A)) := by
  have nd := sc_Statement___eq__.nd
  refine T.f_Statement___eq__.ok sc_Statement___eq__ (fun vs H Q E h => ?_) (fun cdv A' outer s H vs Q E hr h => ?_)
  · obtain ⟨p, q, rfl, _⟩ := h
    rfl
  · obtain ⟨p, q, rfl, ⟨d, e, bs, os, b2, o2, ⟨C, dx, fs, ps, pr, pb, po, h1, h2, h3, h4, h5, h6, h7, h8, h9, h10, h11, h12⟩, ⟨C', dx', fs', ps', pr', pb', po', g1, g2, g3, g4, g5, g6, g7, g8, g9, g10, g11, g12⟩, er⟩, k⟩ := h
    have fc := T.fam C (List.mem_of_getElem? h1)
    refine ⟨_, (pss_one (ps_ret (pe_and (pe_callB call_isi (by rfl) T.b_isinstance (by decide +kernel) (pa_cons (pv 1) (pa_cons (pe_gR T.m_Statement) pa_nil))) (pe_one (pe_cmpR (op_eqD hr.units) (pe_fld (pv 0) rfl) (pe_fld (pv 1) rfl) (nomark _)))))), ?_⟩
    have fc' := T.fam C' (List.mem_of_getElem? g1)
    refine ⟨_, rfl, _, _, _, _, _, rfl, .own _, fc'.ty _ _ _ _ g2, (T.sub C' (List.mem_of_getElem? g1)).2, _, rfl, ?_⟩
    refine ⟨_, rfl, p, C, dx, _, _, rfl, h2, fc.cl, fc.na _ (by decide +kernel), h5, ?_⟩
    refine ⟨_, rfl, q, C', dx', _, _, rfl, g2, fc'.cl, fc'.na _ (by decide +kernel), g5, ?_⟩
    refine ⟨rowsD d.rows, rowsD e.rows, .tup (SqT.of h6) (dp_strs _), .tup (SqT.of g6) (dp_strs _), shaped_rows h12.aln, shaped_rows g12.aln, ?_⟩
    rw [eqv_rows h12.aln g12.aln, decide_eq_true er]
    exact k H Ext.rfl'
/-- an object is made: nothing else changes -/
theorem mk_same {H H' : Hp} {x dx C : Addr} (nx : H x = none) (ndx : H dx = none) (h : KeepBut x (upd (upd H dx (.own x)) x (.ins C dx [])) H') : Same H H' := by
  intro b o e
  have n1 : b ≠ x := ne_of_none e nx
  have n2 : b ≠ dx := ne_of_none e ndx
  refine h b o n1 ?_
  rw [upd_ne n1, upd_ne n2]
  exact e
theorem new_same {H : Hp} {x dx C : Addr} (nx : H x = none) (ndx : H dx = none) : Same H (upd (upd H dx (.own x)) x (.ins C dx [])) := fun b o e => (upd_ne (ne_of_none e nx)).trans ((upd_ne (ne_of_none e ndx)).trans e)
abbrev tA : Tr := .cond "b" "yes" [] []
abbrev tB : Tr := .joined [tA]
abbrev tC' : Tr := .cond "a" "nothing" [tB] []
abbrev tD : Tr := .loop [tC']
abbrev tE : Tr := .cond "a" "b" [] [tD]
abbrev dueH : Str := "if a is b\nelse\n  loop\n    if a is nothing\n      joined\n        if b is yes"
def handL : List PyData := [.str dueH, .int 5, .int 5, .str "loop", .int 1, .int 1]
theorem hand1 : Txt.join "\n" (rowsT tE) = dueH := by
  have : rowsT tE = (["if a is b", "else", "  loop", "    if a is nothing", "      joined", "        if b is yes"] : List Str) := by
    simp only [rowsT, rowsB, elseR, ind, List.map, List.append_nil, List.nil_append, List.cons_append]
    decide +kernel
  rw [this]
  decide +kernel
theorem hand2 : amT tE = 5 := by simp [amT, amB]
theorem hand3 : lvT tE = 5 := by simp [lvT, lvB]
theorem hand4 : Txt.join "\n" (rowsT (.loop [])) = "loop" := by
  have : rowsT (.loop []) = (["loop"] : List Str) := by simp [rowsT, rowsB, ind]
  rw [this]
  decide +kernel
theorem hand5 : amT (.loop []) = 1 := by simp [amT, amB]
theorem hand6 : lvT (.loop []) = 1 := by simp [lvT, lvB]
theorem hand_ok : (PyData.list handL).showable = true ∧ (PyData.list handL).hasDict = false ∧ (PyData.list handL).depth ≤ 60 ∧ (PyData.list handL).shown.length ≤ sizeLine := ⟨by decide +kernel, by decide +kernel, by decide +kernel, by decide +kernel⟩
abbrev tP : Tr := .one 1 ["put", "c", "v"] ("put " ++ "c" ++ " " ++ "v")
abbrev tL : Tr := .one 5 ["leave"] "leave"
theorem rows1 : rowsT (.cond "a" "b" [tP, tL] []) = (["if a is b", "  put c v", "  leave"] : List Str) := by
  simp only [rowsT, rowsB, elseR, ind, List.map, List.append_nil, List.nil_append, List.cons_append]
  decide +kernel
theorem rows2 : rowsT (.cond "a" "b" [] [tP, tL]) = (["if a is b", "else", "  put c v", "  leave"] : List Str) := by
  simp only [rowsT, rowsB, elseR, ind, List.map, List.append_nil, List.nil_append, List.cons_append]
  decide +kernel
theorem rows3 : rowsT (.cond "b" "a" [tP, tL] []) = (["if b is a", "  put c v", "  leave"] : List Str) := by
  simp only [rowsT, rowsB, elseR, ind, List.map, List.append_nil, List.nil_append, List.cons_append]
  decide +kernel
theorem rows4 : rowsT (.loop [tP, tL]) = (["loop", "  put c v", "  leave"] : List Str) := by
  simp only [rowsT, rowsB, elseR, ind, List.map, List.append_nil, List.nil_append, List.cons_append]
  decide +kernel
theorem hne1 : ¬ (sdT (.cond "a" "b" [tP, tL] [])).rows = (sdT (.cond "a" "b" [] [tP, tL])).rows := by
  show ¬ rowsT _ = rowsT _
  rw [rows1, rows2]
  decide +kernel
theorem hne2 : ¬ (sdT (.cond "a" "b" [tP, tL] [])).rows = (sdT (.cond "b" "a" [tP, tL] [])).rows := by
  show ¬ rowsT _ = rowsT _
  rw [rows1, rows3]
  decide +kernel
theorem hne3 : ¬ (sdT (.cond "a" "b" [tP, tL] [])).rows = (sdT (.loop [tP, tL])).rows := by
  show ¬ rowsT _ = rowsT _
  rw [rows1, rows4]
  decide +kernel
theorem hne4 : ¬ (sdT (.joined [])).rows = (sdT (.loop [])).rows := by
  show ¬ rowsT _ = rowsT _
  have h1 : rowsT (.joined []) = (["joined"] : List Str) := by simp [rowsT, rowsB, ind]
  have h2 : rowsT (.loop []) = (["loop"] : List Str) := by simp [rowsT, rowsB, ind]
  rw [h1, h2]
  decide +kernel
theorem ins_of {H : Hp} {p C : Addr} {t : Tr} (h : StT K A H p t) (hk : A.fam[t.k]? = some C) : ∃ dx fs, H p = some (.ins C dx fs) := by
  obtain ⟨bs, os, ⟨C', dx, fs, _, _, _, _, h1, h2, _⟩, _, _⟩ := h.at
  have : A.fam[t.k]? = some C' := h1
  rw [hk] at this
  cases this
  exact ⟨dx, fs, h2⟩
theorem rst_of {H : Hp} {p q : Addr} {t : Tr} (h : StT K A H p t) (g : StT K A H q t) : Rst K A p q H := by
  obtain ⟨b1, o1, s1, _, _⟩ := h.at
  obtain ⟨b2, o2, s2, _, _⟩ := g.at
  exact ⟨_, _, _, _, _, _, s1, s2, rfl⟩
def spHand : Sp := fun vs H Q _ => vs = [] ∧ ∀ H', Same H H' → Q (.bl true) H'
theorem oper_by {z : Str} (h : (isOperV (.str z) && z.cps.toList.all Aln && decide (z.length ≤ 8)) = true) : OperT z := by
  rw [Bool.and_eq_true, Bool.and_eq_true] at h
  exact ⟨h.1.1, fun c hc => List.all_eq_true.mp h.1.2 c hc, of_decide_eq_true h.2⟩
theorem ok_law_by_hand (T : Txt K mg A) : FnG P w K mg base CX0 14 A.a_law_by_hand A.d_law_by_hand [] spHand := by
  have nd := sc_law_by_hand.nd
  refine Fun_okG T.f_law_by_hand sc_law_by_hand (fun vs H Q E h => ?_) (fun cdv A' outer s H vs Q E hr hG h => ?_)
  · obtain ⟨rfl, _⟩ := h
    rfl
  · obtain ⟨rfl, q⟩ := h
    have oa : OperT "a" := oper_by (by decide +kernel)
    have ob : OperT "b" := oper_by (by decide +kernel)
    have on : OperT "nothing" := oper_by (by decide +kernel)
    have oy : OperT "yes" := oper_by (by decide +kernel)
    refine ⟨_, (pss_cons (ps_set (i := 0) nd rfl (Or.inl rfl) (pe_make (dvs := []) T.mk_If (ok_If___init__ T) (hr.mono (by decide)) (by rfl) T.m_If T.vd_If___init___4 .nil pass0 (pa_cons pe_str (pa_cons pe_str (pa_cons (pe_tup pa_nil) (pa_cons (pe_tup (pa_cons (pe_make T.mk_Loop (ok_Loop___init__ T) (hr.mono (by decide)) (by rfl) T.m_Loop T.v_Loop___init__ .nil pass0 (pa_cons (pe_tup (pa_cons (pe_make (dvs := [.ref A.x_If___init___0]) T.mk_If (ok_If___init__ T) (hr.mono (by decide)) (by rfl) T.m_If T.vd_If___init___3 (.cons rfl .nil) pass0 (pa_cons pe_str (pa_cons pe_str (pa_cons (pe_tup (pa_cons (pe_make T.mk_Joined (ok_Joined___init__ T) (hr.mono (by decide)) (by rfl) T.m_Joined T.v_Joined___init__ .nil pass0 (pa_cons (pe_tup (pa_cons (pe_make (dvs := [.ref A.x_If___init___0]) T.mk_If (ok_If___init__ T) (hr.mono (by decide)) (by rfl) T.m_If T.vd_If___init___3 (.cons rfl .nil) pass0 (pa_cons pe_str (pa_cons pe_str (pa_cons (pe_tup pa_nil) pa_nil)))) pa_nil)) pa_nil)) pa_nil)) pa_nil)))) pa_nil)) pa_nil)) pa_nil)) pa_nil))))))
      (pss_cons (ps_set (i := 1) nd rfl (Or.inl rfl) pe_str)
      (pss_cons (ps_set (i := 2) nd rfl (Or.inl rfl) (pe_lst (pa_cons (pe_callTy (call_strF (ok_Statement___str__ T) (hr.mono (by decide)) T.sp_Statement___str__ T.v_Statement___str__ pass0) (by rfl) T.b_str (by decide +kernel) (pa_cons (pv 0) pa_nil)) (pa_cons (pe_propF (pv 0) T.pr_Statement_amount (ok_Statement_amount T) (hr.mono (by decide)) T.v_Statement_amount pass0) (pa_cons (pe_propF (pv 0) T.pr_Statement_level (ok_Statement_level T) (hr.mono (by decide)) T.v_Statement_level pass0) (pa_cons (pe_callTy (call_strF (ok_Statement___str__ T) (hr.mono (by decide)) T.sp_Statement___str__ T.v_Statement___str__ pass0) (by rfl) T.b_str (by decide +kernel) (pa_cons (pe_make T.mk_Loop (ok_Loop___init__ T) (hr.mono (by decide)) (by rfl) T.m_Loop T.v_Loop___init__ .nil pass0 (pa_cons (pe_tup pa_nil) pa_nil)) pa_nil)) (pa_cons (pe_propF (pe_make T.mk_Loop (ok_Loop___init__ T) (hr.mono (by decide)) (by rfl) T.m_Loop T.v_Loop___init__ .nil pass0 (pa_cons (pe_tup pa_nil) pa_nil)) T.pr_Statement_amount (ok_Statement_amount T) (hr.mono (by decide)) T.v_Statement_amount pass0) (pa_cons (pe_propF (pe_make T.mk_Loop (ok_Loop___init__ T) (hr.mono (by decide)) (by rfl) T.m_Loop T.v_Loop___init__ .nil pass0 (pa_cons (pe_tup pa_nil) pa_nil)) T.pr_Statement_level (ok_Statement_level T) (hr.mono (by decide)) T.v_Statement_level pass0) pa_nil))))))))
      (pss_cons (ps_if (pt_cmpR op_ne (pe_callB (call_repr hr hG) (by rfl) T.b_repr (by decide +kernel) (pa_cons (pv 2) pa_nil)) (pe_callB (call_repr hr hG) (by rfl) T.b_repr (by decide +kernel) (pa_cons (pe_lst (pa_cons (pv 1) (pa_cons pe_int (pa_cons pe_int (pa_cons pe_str (pa_cons pe_int (pa_cons pe_int pa_nil))))))) pa_nil)) (nomark _)) (pss_one (ps_ret pe_bl)) pss_nil)
      (pss_cons (ps_if (pt_cmpR (op_neD hr.units) (pe_lst (pa_cons (pe_call (ok_law_kinds T) (hr.mono (by decide)) (by rfl) T.m_law_kinds T.k_law_kinds T.v_law_kinds .nil pass0 (pa_cons (pe_make (dvs := [.ref A.x_If___init___0]) T.mk_If (ok_If___init__ T) (hr.mono (by decide)) (by rfl) T.m_If T.vd_If___init___3 (.cons rfl .nil) pass0 (pa_cons pe_str (pa_cons pe_str (pa_cons (pe_tup pa_nil) pa_nil)))) pa_nil)) (pa_cons (pe_call (ok_law_kinds T) (hr.mono (by decide)) (by rfl) T.m_law_kinds T.k_law_kinds T.v_law_kinds .nil pass0 (pa_cons (pe_make T.mk_Loop (ok_Loop___init__ T) (hr.mono (by decide)) (by rfl) T.m_Loop T.v_Loop___init__ .nil pass0 (pa_cons (pe_tup pa_nil) pa_nil)) pa_nil)) (pa_cons (pe_call (ok_law_kinds T) (hr.mono (by decide)) (by rfl) T.m_law_kinds T.k_law_kinds T.v_law_kinds .nil pass0 (pa_cons (pe_make T.mk_Joined (ok_Joined___init__ T) (hr.mono (by decide)) (by rfl) T.m_Joined T.v_Joined___init__ .nil pass0 (pa_cons (pe_tup pa_nil) pa_nil)) pa_nil)) pa_nil)))) (pe_lst (pa_cons (pe_lst (pa_cons pe_str pa_nil)) (pa_cons (pe_lst (pa_cons pe_str pa_nil)) (pa_cons (pe_lst (pa_cons pe_str pa_nil)) pa_nil)))) (nomark _)) (pss_one (ps_ret pe_bl)) pss_nil)
      (pss_cons (ps_set (i := 3) nd rfl (Or.inl rfl) (pe_tup (pa_cons (pe_make T.mk_Put (ok_Put___init__ T) (hr.mono (by decide)) (by rfl) T.m_Put T.v_Put___init__ .nil pass0 (pa_cons pe_str (pa_cons pe_str pa_nil))) (pa_cons (pe_make0 T.mk_Leave (ok_Leave___init__ T) (hr.mono (by decide)) (by rfl) T.m_Leave T.v_Leave___init__ .nil pass0) pa_nil))))
      (pss_cons (ps_par (i := 4) (j := 5) rfl nd rfl rfl (by decide) rfl rfl (pa_cons (pe_make (dvs := []) T.mk_If (ok_If___init__ T) (hr.mono (by decide)) (by rfl) T.m_If T.vd_If___init___4 .nil pass0 (pa_cons pe_str (pa_cons pe_str (pa_cons (pv 3) (pa_cons (pe_tup pa_nil) pa_nil))))) (pa_cons (pe_make (dvs := [.ref A.x_If___init___0]) T.mk_If (ok_If___init__ T) (hr.mono (by decide)) (by rfl) T.m_If T.vd_If___init___3 (.cons rfl .nil) pass0 (pa_cons pe_str (pa_cons pe_str (pa_cons (pv 3) pa_nil)))) pa_nil)) (by rfl))
      (pss_cons (ps_if (PW.pt (pw_or (pt_cmpR (op_neF (ok_eqT T) (hr.mono (by decide)) (fun C h => ⟨T.sp_Statement___eq__ C h, (T.fam C h).ne, (T.fam C h).mo⟩) T.v_Statement___eq__ pass0) (pv 4) (pv 5) (nomark _)) (pw_or (pt_cmpR (op_eqF (ok_eqT T) (hr.mono (by decide)) T.sp_Statement___eq__ T.v_Statement___eq__ pass0) (pv 4) (pe_make (dvs := []) T.mk_If (ok_If___init__ T) (hr.mono (by decide)) (by rfl) T.m_If T.vd_If___init___4 .nil pass0 (pa_cons pe_str (pa_cons pe_str (pa_cons (pe_tup pa_nil) (pa_cons (pv 3) pa_nil))))) (nomark _)) (pw_or (pt_cmpR (op_eqF (ok_eqT T) (hr.mono (by decide)) T.sp_Statement___eq__ T.v_Statement___eq__ pass0) (pv 4) (pe_make (dvs := [.ref A.x_If___init___0]) T.mk_If (ok_If___init__ T) (hr.mono (by decide)) (by rfl) T.m_If T.vd_If___init___3 (.cons rfl .nil) pass0 (pa_cons pe_str (pa_cons pe_str (pa_cons (pv 3) pa_nil)))) (nomark _)) (pw_or1 (pt_cmpR (op_eqF (ok_eqT T) (hr.mono (by decide)) T.sp_Statement___eq__ T.v_Statement___eq__ pass0) (pv 4) (pe_make T.mk_Loop (ok_Loop___init__ T) (hr.mono (by decide)) (by rfl) T.m_Loop T.v_Loop___init__ .nil pass0 (pa_cons (pv 3) pa_nil)) (nomark _))))))) (pss_one (ps_ret pe_bl)) pss_nil)
      (pss_one (ps_ret (pe_and (pe_cmpR (op_eqG (rcG_tup (Mon.or (mon_ins Rst_mon) (mon_ins Rst_mon)) (EqG.or (eqG_ins (ok_eqR T) (T.sp_Statement___eq__ _ (mem_Put (A := A))).at_ (T.sp_Statement___eq__ _ (mem_Put (A := A))).fn T.v_Statement___eq__ pass0) (eqG_ins (ok_eqR T) (T.sp_Statement___eq__ _ (mem_Leave (A := A))).at_ (T.sp_Statement___eq__ _ (mem_Leave (A := A))).fn T.v_Statement___eq__ pass0))) (hr.mono (by decide))) (pv 3) (pe_tup (pa_cons (pe_make T.mk_Put (ok_Put___init__ T) (hr.mono (by decide)) (by rfl) T.m_Put T.v_Put___init__ .nil pass0 (pa_cons pe_str (pa_cons pe_str pa_nil))) (pa_cons (pe_make0 T.mk_Leave (ok_Leave___init__ T) (hr.mono (by decide)) (by rfl) T.m_Leave T.v_Leave___init__ .nil pass0) pa_nil))) (nomark _)) (pe_one (pe_cmpR (op_neF (ok_eqT T) (hr.mono (by decide)) (fun C h => ⟨T.sp_Statement___eq__ C h, (T.fam C h).ne, (T.fam C h).mo⟩) T.v_Statement___eq__ pass0) (pe_make T.mk_Joined (ok_Joined___init__ T) (hr.mono (by decide)) (by rfl) T.m_Joined T.v_Joined___init__ .nil pass0 (pa_cons (pe_tup pa_nil) pa_nil)) (pe_make T.mk_Loop (ok_Loop___init__ T) (hr.mono (by decide)) (by rfl) T.m_Loop T.v_Loop___init__ .nil pass0 (pa_cons (pe_tup pa_nil) pa_nil)) (nomark _)))))))))))))), ?_⟩
    have am0 : ∀ (l r : Str), amT (.cond l r [] []) = 1 := fun l r => by simp [amT, amB]
    have z0 : amB [] + amB [] ≤ 39 := by rw [amB_nil]; decide
    have z1 : max (lvB []) (lvB []) ≤ 4 := by rw [lvB_nil]; decide
    have z2 : amB [] ≤ 39 := by rw [amB_nil]; decide
    have z3 : lvB [] ≤ 4 := by rw [lvB_nil]; decide
    have n0 : ∀ t ∈ ([] : List Tr), True := fun _ _ => trivial
    -- the tree
    refine ⟨Nat.zero_le _, fun p1 m1 => ⟨Nat.zero_le _, fun p2 m2 => fun x1 d1 nx1 nd1 ne1 => ?_⟩⟩
    have e1 := same_new (o := .tup []) m1
    have e2 := same_new (o := .tup []) m2
    refine ⟨x1, d1, p2, A.x_If___init___0, "b", "yes", [], [], [], [], rfl, upd_same, ob, oy, SqT.of (new_same nx1 nd1 _ _ upd_same), .nil, T.e_If___init___0 _, .nil, z0, z1, fun H1 st1 kb1 => ⟨rfl, (by show 1 ≤ sizeLine; decide), fun p3 m3 => fun x2 d2 nx2 nd2 ne2 => ?_⟩⟩
    have s1 := mk_same nx1 nd1 kb1
    have e3 := same_new (o := .tup [.ref x1]) m3
    have g2 := new_same (C := A.c_Joined) nx2 nd2
    refine ⟨x2, d2, p3, [x1], [tA], rfl, upd_same, SqT.of (g2 _ _ upd_same), .cons ((st1.mv (KpT.of_same e3)).mv (KpT.of_same g2)) .nil, ?_, ?_, ?_, fun H2 st2 kb2 => ⟨rfl, (by show 1 ≤ sizeLine; decide), fun p4 m4 => fun x3 d3 nx3 nd3 ne3 => ?_⟩⟩
    · intro t ht
      rw [List.mem_singleton.mp ht]
      simp [goT, goB, goK]
    · simp [amB, amT]
    · simp [lvB, lvT]
    have s2 := mk_same nx2 nd2 kb2
    have e4 := same_new (o := .tup [.ref x2]) m4
    have g3 := new_same (C := A.c_If) nx3 nd3
    refine ⟨x3, d3, p4, A.x_If___init___0, "a", "nothing", [x2], [], [tB], [], rfl, upd_same, oa, on, SqT.of (g3 _ _ upd_same), .cons ((st2.mv (KpT.of_same e4)).mv (KpT.of_same g3)) .nil, T.e_If___init___0 _, .nil, ?_, ?_, fun H3 st3 kb3 => ⟨rfl, (by show 1 ≤ sizeLine; decide), fun p5 m5 => fun x4 d4 nx4 nd4 ne4 => ?_⟩⟩
    · simp [amB, amT]
    · simp [lvB, lvT]
    have s3 := mk_same nx3 nd3 kb3
    have e5 := same_new (o := .tup [.ref x3]) m5
    have g4 := new_same (C := A.c_Loop) nx4 nd4
    refine ⟨x4, d4, p5, [x3], [tC'], rfl, upd_same, SqT.of (g4 _ _ upd_same), .cons ((st3.mv (KpT.of_same e5)).mv (KpT.of_same g4)) .nil, fun _ _ => trivial, ?_, ?_, fun H4 st4 kb4 => ⟨rfl, (by show 1 ≤ sizeLine; decide), fun p6 m6 => fun x5 d5 nx5 nd5 ne5 => ?_⟩⟩
    · simp [amB, amT]
    · simp [lvB, lvT]
    have s4 := mk_same nx4 nd4 kb4
    have e6 := same_new (o := .tup [.ref x4]) m6
    have g5 := new_same (C := A.c_If) nx5 nd5
    have s16 := ((((((e2.trans s1).trans e3).trans s2).trans e4).trans s3).trans e5).trans (s4.trans e6)
    refine ⟨x5, d5, p1, p6, "a", "b", [], [x4], [], [tD], rfl, upd_same, oa, ob, SqT.of (g5 _ _ (s16 _ _ upd_same)), .nil, SqT.of (g5 _ _ upd_same), .cons ((st4.mv (KpT.of_same e6)).mv (KpT.of_same g5)) .nil, ?_, ?_, fun H5 st5 kb5 => ⟨rfl, ?_⟩⟩
    · simp [amB, amT]
    · simp [lvB, lvT]
    have s5 := mk_same nx5 nd5 kb5
    have s05 := (e1.trans s16).trans s5
    obtain ⟨b5, o5, sa5, _, _⟩ := (st5).at
    have sb5 := sa5
    obtain ⟨C5, y5, fs5, _, _, _, _, a5, c5, _, _, _, _, _, _, _, _, _, _⟩ := sa5
    have mem5 := List.mem_of_getElem? a5
    refine ⟨_, rfl, x5, C5, y5, fs5, rfl, mem5, c5, x5, _, _, _, rfl, sb5, _, rfl, _, rfl, x5, C5, y5, fs5, rfl, mem5, c5, x5, _, _, _, rfl, sb5, _, rfl, x5, C5, y5, fs5, rfl, mem5, c5, x5, _, _, _, rfl, sb5, Nat.zero_le _, fun p7 m7 => fun x6 d6 nx6 nd6 ne6 => ?_⟩
    have e7 := same_new (o := .tup []) m7
    refine ⟨x6, d6, p7, [], [], rfl, upd_same, SqT.of (new_same nx6 nd6 _ _ upd_same), .nil, n0, z2, z3, fun H6 st6 kb6 => ⟨rfl, ?_⟩⟩
    have s6 := mk_same nx6 nd6 kb6
    obtain ⟨b6, o6, sa6, _, _⟩ := (st6).at
    have sb6 := sa6
    obtain ⟨C6, y6, fs6, _, _, _, _, a6, c6, _, _, _, _, _, _, _, _, _, _⟩ := sa6
    have mem6 := List.mem_of_getElem? a6
    refine ⟨x6, C6, y6, fs6, rfl, mem6, c6, x6, _, _, _, rfl, sb6, _, rfl, Nat.zero_le _, fun p8 m8 => fun x7 d7 nx7 nd7 ne7 => ?_⟩
    have e8 := same_new (o := .tup []) m8
    refine ⟨x7, d7, p8, [], [], rfl, upd_same, SqT.of (new_same nx7 nd7 _ _ upd_same), .nil, n0, z2, z3, fun H7 st7 kb7 => ⟨rfl, ?_⟩⟩
    have s7 := mk_same nx7 nd7 kb7
    obtain ⟨b7, o7, sa7, _, _⟩ := (st7).at
    have sb7 := sa7
    obtain ⟨C7, y7, fs7, _, _, _, _, a7, c7, _, _, _, _, _, _, _, _, _, _⟩ := sa7
    have mem7 := List.mem_of_getElem? a7
    refine ⟨x7, C7, y7, fs7, rfl, mem7, c7, x7, _, _, _, rfl, sb7, Nat.zero_le _, fun p9 m9 => fun x8 d8 nx8 nd8 ne8 => ?_⟩
    have e9 := same_new (o := .tup []) m9
    refine ⟨x8, d8, p9, [], [], rfl, upd_same, SqT.of (new_same nx8 nd8 _ _ upd_same), .nil, n0, z2, z3, fun H8 st8 kb8 => ⟨rfl, ?_⟩⟩
    have s8 := mk_same nx8 nd8 kb8
    obtain ⟨b8, o8, sa8, _, _⟩ := (st8).at
    have sb8 := sa8
    obtain ⟨C8, y8, fs8, _, _, _, _, a8, c8, _, _, _, _, _, _, _, _, _, _⟩ := sa8
    have mem8 := List.mem_of_getElem? a8
    refine ⟨x8, C8, y8, fs8, rfl, mem8, c8, x8, _, _, _, rfl, sb8, (by show 6 ≤ sizeLine; decide), fun l1 q1 => ?_⟩
    have s58 := (((e7.trans s6).trans e8).trans s7).trans (e9.trans s8)
    have r1 := same_new (o := .lst [.str (Txt.join "\n" (rowsT tE)), .int (amT tE : Nat), .int (lvT tE : Nat), .str (Txt.join "\n" (rowsT (.loop []))), .int (amT (.loop []) : Nat), .int (lvT (.loop []) : Nat)]) q1
    have dp : ∀ H9, DpAll K H9 [V.str (Txt.join "\n" (rowsT tE)), .int (amT tE : Nat), .int (lvT tE : Nat), .str (Txt.join "\n" (rowsT (.loop []))), .int (amT (.loop []) : Nat), .int (lvT (.loop []) : Nat)] handL := by
      intro H9
      rw [hand1, hand2, hand3, hand4, hand5, hand6]
      exact .cons (.str _) (.cons (.int _) (.cons (.int _) (.cons (.str _) (.cons (.int _) (.cons (.int _) .nil)))))
    obtain ⟨k1, k2, k3, k4⟩ := hand_ok
    refine ⟨_, rfl, l1, .list handL, rfl, .lst (SqL.of upd_same) (dp _), k1, k2, k3, k4, ?_⟩
    refine ⟨_, rfl, (by show 6 ≤ sizeLine; decide), fun l2 q2 => ⟨l2, .list handL, rfl, .lst (SqL.of upd_same) (.cons (.str _) (.cons (.int _) (.cons (.int _) (.cons (.str _) (.cons (.int _) (.cons (.int _) .nil)))))), k1, k2, k3, k4, rfl, _, rfl, iteNS rfl ?_⟩⟩
    have r2 := same_new (o := .lst [.str dueH, .int 5, .int 5, .str "loop", .int 1, .int 1]) q2
    have s09 := ((s05.trans s58).trans r1).trans r2
    -- kinds
    refine ⟨Nat.zero_le _, fun p10 m10 => fun x10 d10 nx10 nd10 ne10 => ?_⟩
    have f1 := same_new (o := .tup []) m10
    refine ⟨x10, d10, p10, A.x_If___init___0, "a", "b", [], [], [], [], rfl, upd_same, oa, ob, SqT.of (new_same nx10 nd10 _ _ upd_same), .nil, T.e_If___init___0 _, .nil, z0, z1, fun H10 st10 kb10 => ⟨rfl, ?_⟩⟩
    have f2 := mk_same nx10 nd10 kb10
    obtain ⟨b10, o10, sa10, _, _⟩ := (st10).at
    have sb10 := sa10
    obtain ⟨C10, y10, fs10, _, _, _, _, a10, c10, _, _, _, _, _, _, _, _, _, _⟩ := sa10
    have mem10 := List.mem_of_getElem? a10
    refine ⟨x10, _, _, _, rfl, sb10, fun lk1 H11 f3 hk1 => ⟨Nat.zero_le _, fun p11 m11 => fun x11 d11 nx11 nd11 ne11 => ?_⟩⟩
    have f4 := same_new (o := .tup []) m11
    refine ⟨x11, d11, p11, [], [], rfl, upd_same, SqT.of (new_same nx11 nd11 _ _ upd_same), .nil, n0, z2, z3, fun H12 st12 kb12 => ⟨rfl, ?_⟩⟩
    have f5 := mk_same nx11 nd11 kb12
    obtain ⟨b12, o12, sa12, _, _⟩ := (st12).at
    have sb12 := sa12
    obtain ⟨C12, y12, fs12, _, _, _, _, a12, c12, _, _, _, _, _, _, _, _, _, _⟩ := sa12
    have mem12 := List.mem_of_getElem? a12
    refine ⟨x11, _, _, _, rfl, sb12, fun lk2 H13 f6 hk2 => ⟨Nat.zero_le _, fun p12 m12 => fun x12 d12 nx12 nd12 ne12 => ?_⟩⟩
    have f7 := same_new (o := .tup []) m12
    refine ⟨x12, d12, p12, [], [], rfl, upd_same, SqT.of (new_same nx12 nd12 _ _ upd_same), .nil, (fun _ h => (List.not_mem_nil h).elim), z2, z3, fun H14 st14 kb14 => ⟨rfl, ?_⟩⟩
    have f8 := mk_same nx12 nd12 kb14
    obtain ⟨b14, o14, sa14, _, _⟩ := (st14).at
    have sb14 := sa14
    obtain ⟨C14, y14, fs14, _, _, _, _, a14, c14, _, _, _, _, _, _, _, _, _, _⟩ := sa14
    have mem14 := List.mem_of_getElem? a14
    refine ⟨x12, _, _, _, rfl, sb14, fun lk3 H15 f9 hk3 => ⟨(by show 3 ≤ sizeLine; decide), fun l3 m13 => ?_⟩⟩
    have hk1 : H11 lk1 = some (.lst [.str "if"]) := hk1
    have hk2 : H13 lk2 = some (.lst [.str "loop"]) := hk2
    have hk3 : H15 lk3 = some (.lst [.str "joined"]) := hk3
    have f10 := same_new (o := .lst [.ref lk1, .ref lk2, .ref lk3]) m13
    refine ⟨(by show 1 ≤ sizeLine; decide), fun l4 m14 => ⟨(by show 1 ≤ sizeLine; decide), fun l5 m15 => ⟨(by show 1 ≤ sizeLine; decide), fun l6 m16 => ⟨(by show 3 ≤ sizeLine; decide), fun l7 m17 => ?_⟩⟩⟩⟩
    have f11 := same_new (o := .lst [.str "if"]) m14
    have f12 := same_new (o := .lst [.str "loop"]) m15
    have f13 := same_new (o := .lst [.str "joined"]) m16
    have f14 := same_new (o := .lst [.ref l4, .ref l5, .ref l6]) m17
    have u13 := f13.trans f14
    have u12 := f12.trans u13
    have u11 := f11.trans u12
    have u10 := f10.trans u11
    have u15 := f9.trans u10
    have u13' := ((f7.trans f8).trans f9).trans u10
    have u11' := ((f4.trans f5).trans f6).trans u13'
    refine ⟨.list [.list [.str "if"], .list [.str "loop"], .list [.str "joined"]], .list [.list [.str "if"], .list [.str "loop"], .list [.str "joined"]], .lst (SqL.of (u11 _ _ upd_same)) (.cons (.lst (SqL.of (u11' _ _ hk1)) (.cons (.str _) .nil)) (.cons (.lst (SqL.of (u13' _ _ hk2)) (.cons (.str _) .nil)) (.cons (.lst (SqL.of (u10 _ _ hk3)) (.cons (.str _) .nil)) .nil))),
      .lst (SqL.of upd_same) (.cons (.lst (SqL.of (u12 _ _ upd_same)) (.cons (.str _) .nil)) (.cons (.lst (SqL.of (u13 _ _ upd_same)) (.cons (.str _) .nil)) (.cons (.lst (SqL.of (f14 _ _ upd_same)) (.cons (.str _) .nil)) .nil))), by decide +kernel, by decide +kernel, _, rfl, ?_⟩
    refine (if_neg (by decide +kernel)).mpr ?_
    have s015 := (((s09.trans f1).trans f2).trans f3).trans u11'
    -- two statements in a tuple
    have nc : NameT "c" := name_by (by decide +kernel)
    have ov : OperT "v" := oper_by (by decide +kernel)
    refine fun x13 d13 nx13 nd13 ne13 => ⟨x13, d13, "c", "v", rfl, upd_same, nc, ov, fun H16 st16 kb16 => ⟨rfl, fun x14 d14 nx14 nd14 ne14 => ⟨x14, d14, rfl, upd_same, fun H17 st17 kb17 => ⟨rfl, (by show 2 ≤ sizeLine; decide), fun pS m18 => ?_⟩⟩⟩⟩
    have v1 := mk_same nx13 nd13 kb16
    have v2 := mk_same nx14 nd14 kb17
    have v3 := same_new (o := .tup [.ref x13, .ref x14]) m18
    have so1 : StT K A H17 x13 tP := (one_st st16).mv (KpT.of_same v2)
    have so2 : StT K A H17 x14 tL := one_st st17
    have sts : StsT K A H17 [x13, x14] [tP, tL] := .cons so1 (.cons so2 .nil)
    have w1 : amB [tP, tL] + amB [] ≤ 39 := by simp [amB, amT]
    have w2 : max (lvB [tP, tL]) (lvB []) ≤ 4 := by simp [lvB, lvT]
    have w1' : amB [] + amB [tP, tL] ≤ 39 := by simp [amB, amT]
    have w2' : max (lvB []) (lvB [tP, tL]) ≤ 4 := by simp [lvB, lvT]
    have w3 : amB [tP, tL] ≤ 39 := by simp [amB, amT]
    have w4 : lvB [tP, tL] ≤ 4 := by simp [lvB, lvT]
    refine ⟨_, rfl, Nat.zero_le _, fun p15 m19 => fun x15 d15 nx15 nd15 ne15 => ?_⟩
    have v4 := same_new (o := .tup []) m19
    have g15 := new_same (C := A.c_If) nx15 nd15
    have t4 := (v3.trans v4).trans g15
    refine ⟨x15, d15, pS, p15, "a", "b", [x13, x14], [], [tP, tL], [], rfl, upd_same, oa, ob, SqT.of (g15 _ _ (v4 _ _ upd_same)), sts.mv (KpT.of_same t4), SqT.of (g15 _ _ upd_same), .nil, w1, w2, fun H18 st18 kb18 => ⟨rfl, ?_⟩⟩
    have v5 := mk_same nx15 nd15 kb18
    have hS18 : H18 pS = some (.tup [.ref x13, .ref x14]) := v5 _ _ (v4 _ _ upd_same)
    have t18 := (v3.trans v4).trans v5
    refine ⟨_, rfl, fun x16 d16 nx16 nd16 ne16 => ?_⟩
    have g16 := new_same (C := A.c_If) nx16 nd16
    refine ⟨x16, d16, pS, A.x_If___init___0, "a", "b", [x13, x14], [], [tP, tL], [], rfl, upd_same, oa, ob, SqT.of (g16 _ _ hS18), sts.mv (KpT.of_same (t18.trans g16)), T.e_If___init___0 _, .nil, w1, w2, fun H19 st19 kb19 => ⟨rfl, _, _, rfl, ?_⟩⟩
    have v6 := mk_same nx16 nd16 kb19
    have t19 := t18.trans v6
    have hS19 := v6 _ _ hS18
    have sf := st18.mv (KpT.of_same v6)
    obtain ⟨b18, o18, sa18, _, _⟩ := (sf).at
    have sb18 := sa18
    obtain ⟨C18, y18, fs18, _, _, _, _, a18, c18, _, _, _, _, _, _, _, _, _, _⟩ := sa18
    have mem18 := List.mem_of_getElem? a18
    obtain ⟨b19, o19, sa19, _, _⟩ := (st19).at
    have sb19 := sa19
    obtain ⟨C19, y19, fs19, _, _, _, _, a19, c19, _, _, _, _, _, _, _, _, _, _⟩ := sa19
    have mem19 := List.mem_of_getElem? a19
    refine ⟨_, rfl, _, rfl, x15, C18, y18, fs18, _, rfl, mem18, c18, (T.fam C19 mem19).ty _ _ _ _ c19, (T.tab _ _ C18 C19 a18 a19).2, x15, _, _, _, _, rfl, sb18, Or.inl ⟨x16, _, _, _, rfl, sb19, _, rfl, _, rfl, ?_⟩⟩
    refine (if_neg (by rw [decide_eq_true rfl]; decide)).mpr ?_
    -- three that differ
    refine ⟨_, rfl, Nat.zero_le _, fun p17 m20 => ⟨_, rfl, fun x20' d20 nx20 nd20 ne20 => ?_⟩⟩
    have v7 := same_new (o := .tup []) m20
    have g20 := new_same (C := A.c_If) nx20 nd20
    refine ⟨x20', d20, p17, pS, "a", "b", [], [x13, x14], [], [tP, tL], rfl, upd_same, oa, ob, SqT.of (g20 _ _ upd_same), .nil, SqT.of (g20 _ _ (v7 _ _ hS19)), sts.mv (KpT.of_same ((t19.trans v7).trans g20)), w1', w2', fun H20 st20 kb20 => ⟨rfl, ?_⟩⟩
    have v8 := mk_same nx20 nd20 kb20
    have t20 := (t19.trans v7).trans v8
    have hS20 := v8 _ _ (v7 _ _ hS19)
    have sf2 := sf.mv (KpT.of_same (v7.trans v8))
    obtain ⟨b21, o21, sa21, _, _⟩ := (sf2).at
    have sb21 := sa21
    obtain ⟨C21, y21, fs21, _, _, _, _, a21, c21, _, _, _, _, _, _, _, _, _, _⟩ := sa21
    have mem21 := List.mem_of_getElem? a21
    obtain ⟨b20, o20, sa20, _, _⟩ := (st20).at
    have sb20 := sa20
    obtain ⟨C20, y20, fs20, _, _, _, _, a20, c20, _, _, _, _, _, _, _, _, _, _⟩ := sa20
    have mem20 := List.mem_of_getElem? a20
    refine ⟨x15, C21, y21, fs21, _, rfl, mem21, c21, (T.fam C20 mem20).ty _ _ _ _ c20, (T.tab _ _ C21 C20 a21 a20).2, x15, _, _, _, _, rfl, sb21, Or.inl ⟨x20', _, _, _, rfl, sb20, _, rfl, _, rfl, ?_⟩⟩
    refine (if_neg (by rw [decide_eq_false hne1]; decide)).mpr ?_
    refine ⟨_, rfl, _, rfl, fun x22' d22 nx22 nd22 ne22 => ?_⟩
    have g22 := new_same (C := A.c_If) nx22 nd22
    refine ⟨x22', d22, pS, A.x_If___init___0, "b", "a", [x13, x14], [], [tP, tL], [], rfl, upd_same, ob, oa, SqT.of (g22 _ _ hS20), sts.mv (KpT.of_same (t20.trans g22)), T.e_If___init___0 _, .nil, w1, w2, fun H22 st22 kb22 => ⟨rfl, ?_⟩⟩
    have v9 := mk_same nx22 nd22 kb22
    have t22 := t20.trans v9
    have hS22 := v9 _ _ hS20
    have sf3 := sf2.mv (KpT.of_same v9)
    obtain ⟨b23, o23, sa23, _, _⟩ := (sf3).at
    have sb23 := sa23
    obtain ⟨C23, y23, fs23, _, _, _, _, a23, c23, _, _, _, _, _, _, _, _, _, _⟩ := sa23
    have mem23 := List.mem_of_getElem? a23
    obtain ⟨b22, o22, sa22, _, _⟩ := (st22).at
    have sb22 := sa22
    obtain ⟨C22, y22, fs22, _, _, _, _, a22, c22, _, _, _, _, _, _, _, _, _, _⟩ := sa22
    have mem22 := List.mem_of_getElem? a22
    refine ⟨x15, C23, y23, fs23, _, rfl, mem23, c23, (T.fam C22 mem22).ty _ _ _ _ c22, (T.tab _ _ C23 C22 a23 a22).2, x15, _, _, _, _, rfl, sb23, Or.inl ⟨x22', _, _, _, rfl, sb22, _, rfl, _, rfl, ?_⟩⟩
    refine (if_neg (by rw [decide_eq_false hne2]; decide)).mpr ?_
    refine ⟨_, rfl, _, rfl, fun x24' d24 nx24 nd24 ne24 => ?_⟩
    have g24 := new_same (C := A.c_Loop) nx24 nd24
    refine ⟨x24', d24, pS, [x13, x14], [tP, tL], rfl, upd_same, SqT.of (g24 _ _ hS22), sts.mv (KpT.of_same (t22.trans g24)), fun _ _ => trivial, w3, w4, fun H24 st24 kb24 => ⟨rfl, ?_⟩⟩
    have v10 := mk_same nx24 nd24 kb24
    have t24 := t22.trans v10
    have hS24 := v10 _ _ hS22
    have sf4 := sf3.mv (KpT.of_same v10)
    obtain ⟨b25, o25, sa25, _, _⟩ := (sf4).at
    have sb25 := sa25
    obtain ⟨C25, y25, fs25, _, _, _, _, a25, c25, _, _, _, _, _, _, _, _, _, _⟩ := sa25
    have mem25 := List.mem_of_getElem? a25
    obtain ⟨b24, o24, sa24, _, _⟩ := (st24).at
    have sb24 := sa24
    obtain ⟨C24, y24, fs24, _, _, _, _, a24, c24, _, _, _, _, _, _, _, _, _, _⟩ := sa24
    have mem24 := List.mem_of_getElem? a24
    refine ⟨x15, C25, y25, fs25, _, rfl, mem25, c25, (T.fam C24 mem24).ty _ _ _ _ c24, (T.tab _ _ C25 C24 a25 a24).2, x15, _, _, _, _, rfl, sb25, Or.inl ⟨x24', _, _, _, rfl, sb24, _, rfl, _, rfl, ?_⟩⟩
    refine (if_neg (by rw [decide_eq_false hne3]; decide)).mpr ?_
    -- the tuples
    refine ⟨_, rfl, fun x26 d26 nx26 nd26 ne26 => ⟨x26, d26, "c", "v", rfl, upd_same, nc, ov, fun H26 st26 kb26 => ⟨rfl, fun x27 d27 nx27 nd27 ne27 => ⟨x27, d27, rfl, upd_same, fun H27 st27 kb27 => ⟨rfl, (by show 2 ≤ sizeLine; decide), fun pT m28 => ?_⟩⟩⟩⟩⟩
    have v11 := mk_same nx26 nd26 kb26
    have v12 := mk_same nx27 nd27 kb27
    have v13 := same_new (o := .tup [.ref x26, .ref x27]) m28
    have t27 := (t24.trans v11).trans (v12.trans v13)
    have sp1 := so1.mv (KpT.of_same t27)
    have sp2 := so2.mv (KpT.of_same t27)
    have sq1 : StT K A _ x26 tP := ((one_st st26).mv (KpT.of_same v12)).mv (KpT.of_same v13)
    have sq2 : StT K A _ x27 tL := (one_st st27).mv (KpT.of_same v13)
    obtain ⟨dxa, fsa, ha⟩ := ins_of sp1 (C := A.c_Put) rfl
    obtain ⟨dxb, fsb, hb⟩ := ins_of sq1 (C := A.c_Put) rfl
    obtain ⟨dxc, fsc, hc⟩ := ins_of sp2 (C := A.c_Leave) rfl
    obtain ⟨dxd, fsd, hd⟩ := ins_of sq2 (C := A.c_Leave) rfl
    refine ⟨⟨pS, pT, _, _, rfl, rfl, SqT.of ((v11.trans (v12.trans v13)) _ _ hS24), SqT.of upd_same, .cons (.inl ⟨x13, x26, dxa, dxb, fsa, fsb, rfl, rfl, ha, hb, rst_of sp1 sq1⟩) (.cons (.inr ⟨x14, x27, dxc, dxd, fsc, fsd, rfl, rfl, hc, hd, rst_of sp2 sq2⟩) .nil)⟩, fun H28 e28 => ?_⟩
    refine ⟨true, rfl, ?_⟩
    refine ⟨Nat.zero_le _, fun p29 m29 => fun x29 d29 nx29 nd29 ne29 => ?_⟩
    have v14 := same_new (o := .tup []) m29
    refine ⟨x29, d29, p29, [], [], rfl, upd_same, SqT.of (new_same nx29 nd29 _ _ upd_same), .nil, (fun _ h => (List.not_mem_nil h).elim), z2, z3, fun H29 st29 kb29 => ⟨rfl, ?_⟩⟩
    have v15 := mk_same nx29 nd29 kb29
    refine ⟨Nat.zero_le _, fun p30 m30 => fun x30 d30 nx30 nd30 ne30 => ?_⟩
    have v16 := same_new (o := .tup []) m30
    refine ⟨x30, d30, p30, [], [], rfl, upd_same, SqT.of (new_same nx30 nd30 _ _ upd_same), .nil, n0, z2, z3, fun H30 st30 kb30 => ⟨rfl, ?_⟩⟩
    have v17 := mk_same nx30 nd30 kb30
    have sg := st29.mv (KpT.of_same (v16.trans v17))
    obtain ⟨b29, o29, sa29, _, _⟩ := (sg).at
    have sb29 := sa29
    obtain ⟨C29, y29, fs29, _, _, _, _, a29, c29, _, _, _, _, _, _, _, _, _, _⟩ := sa29
    have mem29 := List.mem_of_getElem? a29
    obtain ⟨b30, o30, sa30, _, _⟩ := (st30).at
    have sb30 := sa30
    obtain ⟨C30, y30, fs30, _, _, _, _, a30, c30, _, _, _, _, _, _, _, _, _, _⟩ := sa30
    have mem30 := List.mem_of_getElem? a30
    refine ⟨x29, C29, y29, fs29, _, rfl, mem29, c29, (T.fam C30 mem30).ty _ _ _ _ c30, (T.tab _ _ C29 C30 a29 a30).2, x29, _, _, _, _, rfl, sb29, Or.inl ⟨x30, _, _, _, rfl, sb30, _, rfl, ?_⟩⟩
    rw [decide_eq_false hne4]
    exact q _ ((((((s015.trans v1).trans v2).trans t27).trans e28).trans (v14.trans v15)).trans (v16.trans v17))
end
end K04
set_option Elab.async false
set_option linter.all false
set_option maxRecDepth 100000
set_option maxHeartbeats 4000000
namespace Mo
open PySem PySem.Spec PyProof.Rows L2
section
variable {X : Cx} {CX : CXT} {k : Nat} {f : Addr} {fd : FuncData} {ps : List Str} {sp : Sp} {dvs : List V} {ds : List Value} {E : XK} {x : Str} {p pos : Pos}
/-- f() -/
theorem pe_callG0 (F : FnG X.prog X.w X.K X.mg X.base CX k f fd ps sp) (hr : Room k X.A) (hG : X.A.guards = some []) (hg : Gl X x) (hm : X.mg x = some (.ref f)) (hk : PySem.W.keepIn X.K (.ref f) = true) (hb : Binds X.K fd ps ds) (hd : Vals dvs ds) (hx : Passes CX X E)
    (hdb : (x == ("__debug__" : Str)) = false := by decide) : PE X (.Call (.Name x p) [] [] pos) (tCall sp dvs E tNil) := by
  refine ⟨fun pins s σ H Q I h => ?_⟩
  refine wpAny_Call_Name_kw (ld_glob I hg hm ?_ hdb)
  exact PySem.W.callWith_K0 I.kIn hk (call_fnG (us := []) F hr hG hb hd hx I .nil h)
end
end Mo
namespace K04
open PySem PySem.Spec PyProof.Rows L2 Mo
section
variable {w : World} {K : PySem.W.Frag} {mg : Str → Option Value} {base : Heap} {A : Ads}
def spLaw (K : PySem.W.Frag) : Sp := fun vs H Q _ => ∃ (a : Addr) (ns : List Int), vs = [.ref a] ∧ SqL K H a (ns.map V.int) ∧ ns.length ≤ 63 ∧ (∀ z ∈ ns, Builtin.Int.intBits z ≤ 1048576) ∧ ∀ H', Q (.bl true) H'
theorem ok_law (T : Txt K mg A) : FnG P w K mg base CX0 25 A.a_law A.d_law ["_law_numbers"] (spLaw K) := by
  have nd := sc_law.nd
  refine Fun_okG T.f_law sc_law (fun vs H Q E h => ?_) (fun cdv A' outer s H vs Q E hr hG h => ?_)
  · obtain ⟨v, ns, rfl, _⟩ := h
    rfl
  · obtain ⟨a, ns, rfl, hS, hl, hb, k⟩ := h
    refine ⟨_, (pss_cons (ps_if (pt_not (pt_val (pe_callG0 (ok_law_by_hand T) (hr.mono (by decide)) hG (by rfl) T.m_law_by_hand T.k_law_by_hand T.v_law_by_hand .nil pass0))) (pss_one (ps_ret pe_bl)) pss_nil)
      (pss_one (ps_ret (pe_callB (cr_all rfl) (by rfl) T.b_all (by decide +kernel) (pa_cons (pe_lc (own := [("_law_k", 1)]) (g := gName 1) (tt := tYes) rfl nd (pi_range1 (by rfl) T.b_range (pa_cons (pe_callB (call_max2 rfl) (by rfl) T.b_max (by decide +kernel) (pa_cons pe_int (pa_cons (pe_callB (call_min2 rfl) (by rfl) T.b_min (by decide +kernel) (pa_cons (pe_callB call_len_seq (by rfl) T.b_len (by decide +kernel) (pa_cons (pv 0) pa_nil)) (pa_cons pe_int pa_nil))) pa_nil))) pa_nil)) (blkOk_by (N := nm_law) (sc := defScope st_law) (by decide +kernel)) (fun _ _ _ _ _ => (pg_name (i := 1) nd rfl (Or.inl rfl))) (fun _ _ _ _ _ => pts_nil) (fun _ _ _ _ _ => (pe_callG (ok_law_right T) (hr.mono (by decide)) hG (by rfl) T.m_law_right T.k_law_right T.v_law_right .nil pass0 (pa_cons (pe_call (ok_law_source T) (hr.mono (by decide)) (by rfl) T.m_law_source T.k_law_source T.v_law_source .nil pass0 (pa_cons (pe_call (ok_law_number T) (hr.mono (by decide)) (by rfl) T.m_law_number T.k_law_number T.v_law_number .nil pass0 (pa_cons (pv 0) (pa_cons (pv 1) pa_nil))) pa_nil)) pa_nil)))) pa_nil))))), ?_⟩
    refine ⟨rfl, fun H0 s0 => ⟨_, rfl, ?_⟩⟩
    refine ⟨_, rfl, a, _, rfl, Or.inl (s0.seq hS), _, _, rfl, _, _, rfl, ?_⟩
    generalize hj : (if (if 5 < ((ns.map V.int).length : Int) then (5 : Int) else ((ns.map V.int).length : Int)) > 2 then (if 5 < ((ns.map V.int).length : Int) then (5 : Int) else ((ns.map V.int).length : Int)) else 2) = j
    have hj2 : 0 ≤ j ∧ j ≤ 8 := by
      rw [← hj]
      split
      · split <;> omega
      · omega
    refine ⟨j, rfl, by omega, by omega, ?_⟩
    intro D hD0
    have hD : H D = none := s0.free hD0
    refine lc_range (lo := 0) (n := j.toNat) (fun i H2 => Same H H2 ∧ H2 D = some (.lst (List.replicate i (V.bl true)))) ⟨s0.trans (same_new hD0), upd_same⟩ ?_ ?_
    · rintro i H2 hi ⟨s2, hd⟩
      refine ⟨rfl, _, rfl, _, rfl, a, ns, _, rfl, s2.seq hS, hb, by omega, by omega, fun n H3 s3 => ⟨n, rfl, fun p H4 hp s4 src => ⟨p, rfl, src, fun H5 kb => ?_⟩⟩⟩
      have hd3 := s3 _ _ hd
      have hDp : D ≠ p := ne_of_none hd3 hp
      refine ⟨List.replicate i (V.bl true), kb _ _ hDp (s4 _ _ hd3), ?_, ?_, ?_⟩
      · rw [List.length_replicate]
        exact lt5000 (by omega)
      · intro b o e
        have hb1 : b ≠ D := ne_of_none e hD
        have hb2 : b ≠ p := ne_of_none (s3 _ _ (s2 _ _ e)) hp
        rw [upd_ne hb1]
        exact kb _ _ hb2 (s4 _ _ (s3 _ _ (s2 _ _ e)))
      · rw [upd_same, List.replicate_succ']
    · rintro H2 ⟨s2, hd⟩
      refine ⟨D, List.replicate j.toNat true, rfl, SqL.of ?_, ?_⟩
      · rw [hd, List.map_replicate]
      · have e : (List.replicate j.toNat true).all id = true := by simp
        rw [e]
        exact k H2
end
end K04
set_option Elab.async false
set_option linter.all false
set_option maxRecDepth 100000
set_option maxHeartbeats 0
namespace K04
open PySem PySem.Spec PyProof.Rows L2 Mo
abbrev R : PySem.W.OpenRow := PySem.W.OpenLaw.row PySem.Challenge.rw_momentcalls_k04_statements_with_bodies
def chkK (K : PySem.W.Frag) : List Bool := chkA K (adsOf K)
def fnsK (K : PySem.W.Frag) : List FnI := fnsA K (adsOf K)
abbrev hk : PySem.W.Hook := hookM 6 chkK fnsK fvals
def ob (s : PySem.W.SharedT) : Bool × List FnI := obM 6 chkK fnsK (HandSHeadRun.getT s)
theorem ob_eq (s : PySem.W.SharedT) : ob s = hk.obs s.abs := obM_eq (HandSHeadRun.getT_eq s)
def n0 : List PySem.Str := ["__name__", "CallError", "InvalidName", "InvalidOperand", "InvalidBody", "LimitError", "TooMany", "MAX_STATEMENTS", "MAX_LEVEL", "LETTERS", "SIGNS", "NOTHING", "YES", "LONGEST", "is_name", "is_operand", "check_name", "check_operand", "TOGETHER", "Statement", "Look", "Put", "Swap", "Try", "Let", "If", "Loop", "Leave", "Return", "Joined"]
def n1 : List PySem.Str := ["indented", "goes_together", "check_body", "check_joined", "_law_number", "_law_source", "_law_take", "_law_word", "_law_words", "_law_head", "_law_bodies", "_law_lines", "_law_made", "_law_holding", "_law_size", "_law_paces", "_law_line", "_law_operand", "_law_statement", "_law_body", "_law_fitting", "_law_sides", "_law_holder", "_law_height", "_law_bent", "_law_kinds", "_law_is", "_law_right", "_law_by_hand"]
def names : List PySem.Str := n0 ++ n1
theorem run (w : World) : HandSHeadRun.RunEq R (PySem.W.view R.prog [62]) hk ob 20000 names w := by
  intro os
  kernel_rfl
end K04
open PySem PySem.W PySem.Calls PyProof.Rows
theorem PySem.Challenge.cw_momentcalls_k04_statements_with_bodies_holds : PySem.Challenge.rw_momentcalls_k04_statements_with_bodies.Holds := by
  w_on; o_law
  refine HandSHeadRun.head_any (r := OpenLaw.row PySem.Challenge.rw_momentcalls_k04_statements_with_bodies) (q := view (OpenLaw.row PySem.Challenge.rw_momentcalls_k04_statements_with_bodies).prog [62]) (H := K04.hk) (ob := K04.ob) (M := 20000) (loose := K04.names) (d := HandSHeadRun.topDef (OpenLaw.row PySem.Challenge.rw_momentcalls_k04_statements_with_bodies).prog 62) (kwd := []) K04.ob_eq
    (by kernel_rfl) (fun s => by kernel_rfl) K04.run (by kernel_rfl) (by kernel_rfl) (by kernel_rfl) (by rfl) (by first | assumption | decide +kernel) (by decide +kernel) ⟨rfl, rfl, rfl, rfl, rfl, by decide +kernel⟩ ?hw ?hc
  case hw => w_witness2
  case hc =>
    refine Mo.walk_M (l := PySem.Challenge.rw_momentcalls_k04_statements_with_bodies) (n := 63) (k := 25) (x := "_law_numbers") rfl (by decide) (by kernel_rfl) ⟨rfl, by decide, by decide⟩ ?F
    intro w mg fa h Y G hmg0
    obtain ⟨K, KX, c, e⟩ := Y
    obtain ⟨T, hb⟩ := K04.txt_of KX G c e
    have hmg : mg ("law" : PySem.Str) = some (.ref fa) := by
      have e : (HandSHeadRun.topDef (OpenLaw.row PySem.Challenge.rw_momentcalls_k04_statements_with_bodies).prog 62).name = ("law" : PySem.Str) := by kernel_rfl
      rw [← e]
      exact hmg0
    rw [T.m_law] at hmg
    cases hmg
    exact ⟨K, (K04.adsOf K).d_law, K04.spLaw K, KX, hb, fun H a ns h1 h2 _ h4 => ⟨a, ns, rfl, h4, h1, h2, fun _ => rfl⟩, fun base _ _ => K04.ok_law T⟩
#print axioms PySem.Challenge.cw_momentcalls_k04_statements_with_bodies_holds
