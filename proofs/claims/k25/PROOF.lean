import PyProof.Rows.All
import Wide.All
import OpenK.AllK
import Wide.FinOn
import HandS.ForMost
import HandS.EndBits
import HandS.Wide
import HandS.WideBits
import HandS.IsInst
import HandS.MakeKwOnly
import PyProof.ReprRoads
import HandS.Walk
import HandS.OwnEq
import HandS.Property
import HandS.Conv
import HandS.TupAny
import HandS.FStr
import HandS.TupLen
import KE.GoesMore
import KE.GoesEnum
import HandS.NoneIn
import PySem.Challenge.RW_momentcalls_k25_runs_made
set_option Elab.async false
set_option linter.all false
set_option maxRecDepth 100000
set_option maxHeartbeats 4000000
namespace Mo
open PySem PySem.Spec PyProof.Rows L2

/-! ## Promises of defs that are run where no repr is under way -/
structure FnG (P : Program) (w : World) (K : PySem.W.Frag) (mg : Str → Option Value) (base : Heap) (CX : CXT) (k : Nat) (f : Addr) (fd : FuncData) (ps : List Str) (sp : Sp) : Prop where
  len : ∀ vs H Q E, sp vs H Q E → vs.length = ps.length
  go : ∀ (A : Around) (outer : List Env) (s : Shared) (H : Hp) (args : Args) (us : List Value) (vs : List V) (Q : VK) (E : XK), Room k A → A.guards = some [] →
    Env0 P w K mg base A outer s H → BindsTo s fd args (ps.zip us) → Vals vs us → sp vs H Q E → codeAny (model P w) A (.call (.ref f) args) (CR CX outer P w H s Q E) s

section
variable {P : Program} {w : World} {K : PySem.W.Frag} {mg : Str → Option Value} {base : Heap} {CX : CXT} {k : Nat} {f : Addr} {fd : FuncData} {ps : List Str} {sp : Sp}
theorem FnG.of (F : FnOk P w K mg base CX k f fd ps sp) : FnG P w K mg base CX k f fd ps sp :=
  ⟨F.len, fun A outer s H args us vs Q E hr _ e b v h => F.run A outer s H args us vs Q E hr e b v h⟩
theorem FnG.mono {j : Nat} (F : FnG P w K mg base CX j f fd ps sp) (h : j ≤ k) : FnG P w K mg base CX k f fd ps sp :=
  ⟨F.len, fun A outer s H args us vs Q E hr => F.go A outer s H args us vs Q E (hr.mono h)⟩
end

/-- a def's body, run where no repr is under way -/
theorem fnG_of {CX : CXT} {P : Program} {w : World} {K : PySem.W.Frag} {mg : Str → Option Value} {base : Heap} {k : Nat} {f : Addr} {name qual : Str} {params : Arguments} {body : List Stmt} {scope : Scope}
    {dV kV doc pm cdv ct oc : Value} {an od : Option Addr} {osl : Array (Option Value)} {N ps : List Str} {sp : Sp}
    (lk : K.lookup f = some ⟨oc, od, .func (PySem.W.fnOf name qual params body scope dV kV doc pm an cdv ct), osl⟩) (hcd : PySem.W.codeIn K cdv qual = true)
    (S : FnScope N ps scope) (len : ∀ vs H Q E, sp vs H Q E → vs.length = ps.length)
    (hb : ∀ (A : Around) (outer : List Env) (s : Shared) (H : Hp) (vs : List V) (Q : VK) (E : XK), Room k (A.deeper (envOfC qual scope s.heap.objs.size f cdv)) → A.guards = some [] → sp vs H Q E →
      ∃ t, PSs (cxOf CX P w K mg base N qual scope f cdv A outer s H E) body t ∧ t { nx := fun _ H' => Q .non H', rt := Q } (start N vs) H) :
    FnG P w K mg base CX (k + 1) f (PySem.W.fnOf name qual params body scope dV kV doc pm an cdv ct) ps sp := by
  refine ⟨len, ?_⟩
  intro A outer s H args us vs Q E hr hG env bnd rel wish
  have okK : K.In s.heap := env.mod.kin.keeps fun b o e => (env.bs b o e).1
  have okL : s.heap.NoLimit := env.mod.nolimit.keeps fun b o e => (env.bs b o e).1
  refine codeAny_call_function hr.depth (okK _ _ lk) rfl S.co S.gen rfl (PySem.W.codeRec_of okK hcd) (bnd _ _ _ _ ?_)
  refine wpAny_newFunctionEnv_cells S.kind ?kinds ?rest
  case kinds =>
    rintro ⟨n, v⟩ hy
    cases S.par n (List.of_mem_zip hy).1 with
    | inl q => exact Or.inl q
    | inr q => exact Or.inr ⟨q, PySem.W.cellsFrom_some _ _ _ (Or.inl q)⟩
  case rest =>
    intro env1 he s1 x
    cases he
    refine ⟨okL.keeps x.toInCall.keep, codeAny_func ?_⟩
    obtain ⟨t, ht, hq⟩ := hb A outer s H vs Q E (hr.deeper _) hG wish
    have J := inv_start (CX := CX) (E := E) (qual := qual) (f := f) (cd := cdv) S hr.hd env (len _ _ _ _ wish) rel x
    refine wpAny_mono (ht.run [] s1 (start N vs) H _ J hq) ?_ (fun e s' hs => hs)
    intro fl s' hs
    match fl, hs with
    | .ret u, ⟨v, σ', H', J', rv, q⟩ => exact ⟨v, H', J'.os, J'.bare, J'.base, J'.hok, rv, q⟩
    | .next, ⟨σ', H', J', q⟩ => exact ⟨V.non, H', J'.os, J'.bare, J'.base, J'.hok, rfl, q⟩
    | .brk, ⟨_, _, _, q⟩ => exact q.elim
    | .cont, ⟨_, _, _, q⟩ => exact q.elim

section
variable {P : Program} {w : World} {K : PySem.W.Frag} {mg : Str → Option Value} {base : Heap}
/-- a def that lets no exception out, run where no repr is under way -/
theorem Fun_okG {x qual : Str} {st : Stmt} {f : Addr} {fd : FuncData} {N ps : List Str} {k : Nat} {sp : Sp} (F : Fun K x qual st f fd) (S : FnScope N ps (defScope st)) (len : ∀ vs H Q E, sp vs H Q E → vs.length = ps.length)
    (hb : ∀ (cdv : Value) (A : Around) (outer : List Env) (s : Shared) (H : Hp) (vs : List V) (Q : VK) (E : XK), Room k (A.deeper (envOfC qual (defScope st) s.heap.objs.size f cdv)) → A.guards = some [] → sp vs H Q E →
      ∃ t, PSs (cxOf CX0 P w K mg base N qual (defScope st) f cdv A outer s H E).nox (defBody st) t ∧ t { nx := fun _ H' => Q .non H', rt := Q } (start N vs) H) :
    FnG P w K mg base CX0 (k + 1) f fd ps sp := by
  obtain ⟨oc, od, kV, doc, pm, an, cdv, ct, osl, rfl, lk, hcd⟩ := F.ex
  refine fnG_of lk hcd S len ?_
  intro A outer s H vs Q E hr hG hsp
  have ⟨t, h, q⟩ := hb cdv A outer s H vs Q E hr hG hsp
  exact ⟨t, h.nox, q⟩
end

section
variable {X : Cx} {CX : CXT} {k : Nat} {f : Addr} {fd : FuncData} {ps : List Str} {sp : Sp} {dvs : List V} {ds : List Value} {E : XK} {x : Str} {p pos : Pos} {e : Expr} {es : List Expr} {t tk : TA}
theorem run_fnG {pins : List (Addr × Obj)} {σ : L2.St} {H : Hp} {s : Shared} {Q : VK} {args : Args} {us : List Value} {vs : List V} (F : FnG X.prog X.w X.K X.mg X.base CX k f fd ps sp) (hr : Room k X.A) (hG : X.A.guards = some [])
    (hx : Passes CX X E) (I : Inv X pins σ H s) (hb : BindsTo s fd args (ps.zip us)) (r : Vals vs us) (h : sp vs H Q E) : codeAny (model X.prog X.w) X.A (.call (.ref f) args) (fun r s' => match r with
      | .ok (.ret u) => EP X pins σ Q u s'
      | .ok _ => False
      | .error e => X.xe e s') s := by
  refine codeAny_mono (F.go X.A X.stack s H args us vs Q E hr hG I.env0 hb r h) ?_
  intro r s' hq
  match r, hq with
  | .error e, hq => exact hx pins σ H s e s' I hq
  | .ok (.ret u), hq => exact I.after hq
  | .ok .next, hq => exact hq.elim
  | .ok .brk, hq => exact hq.elim
  | .ok .cont, hq => exact hq.elim
theorem call_fnG {pins : List (Addr × Obj)} {σ : L2.St} {H : Hp} {s : Shared} {Q : VK} {us : List Value} {vs : List V} (F : FnG X.prog X.w X.K X.mg X.base CX k f fd ps sp) (hr : Room k X.A) (hG : X.A.guards = some []) (hb : Binds X.K fd ps ds)
    (hd : Vals dvs ds) (hx : Passes CX X E) (I : Inv X pins σ H s) (r : Vals vs us) (h : sp (vs ++ dvs) H Q E) : wpAny (model X.prog X.w) X.A (call (.ref f) us) (EP X pins σ Q) X.xe s := by
  have r2 : Vals (vs ++ dvs) (us ++ ds) := r.append hd
  have hl := r2.length
  rw [F.len _ _ _ _ h] at hl
  refine wpAny_call (codeAny_mono (run_fnG F hr hG hx I (hb s us I.kIn hl.symm) r2 h) ?_)
  intro r s' hq
  match r, hq with
  | .error e, hq => exact hq
  | .ok (.ret u), hq => exact hq
  | .ok .next, hq => exact hq.elim
  | .ok .brk, hq => exact hq.elim
  | .ok .cont, hq => exact hq.elim
/-- f(e, ..) -/
theorem pe_callG (F : FnG X.prog X.w X.K X.mg X.base CX k f fd ps sp) (hr : Room k X.A) (hG : X.A.guards = some []) (hg : Gl X x) (hm : X.mg x = some (.ref f)) (hk : PySem.W.keepIn X.K (.ref f) = true) (hb : Binds X.K fd ps ds) (hd : Vals dvs ds) (hx : Passes CX X E)
    (ha : PA X (e :: es) t) (hdb : (x == ("__debug__" : Str)) = false := by decide) (he : starEach (e :: es) X.env = (false, eval e X.env) :: starEach es X.env := by rfl)
    (hpl : (backTo pos (starEach es X.env)).any (·.1) = false := by rfl) : PE X (.Call (.Name x p) (e :: es) [] pos) (tCall sp dvs E t) := by
  constructor
  intro pins s σ H Q I h
  apply wpAny_Call_Name_kw
  apply ld_glob I hg hm _ hdb
  apply PySem.W.callWith_K (h₀ := X.base) I.ok.mod.kin hk _ he hpl
  apply thn (ha.run pos pins s σ H _ I h)
  rintro us s1 ⟨vs, H1, I1, r, q⟩
  exact ⟨I1.kIn, call_fnG F hr hG hb hd hx I1 r q⟩
variable {ks : List Str} {kws : List Keyword} {g : List Value → List Value → List Value} {gV : List V → List V → List V}
/-- f(k = v, ..) without positional arguments -/
theorem pe_callK0 (F : FnOk X.prog X.w X.K X.mg X.base CX k f fd ps sp) (hr : Room k X.A) (hg : Gl X x) (hm : X.mg x = some (.ref f)) (hk : PySem.W.keepIn X.K (.ref f) = true) (hb : KBinds X.K fd ps ks g gV) (hx : Passes CX X E) (hkw : PK X kws tk)
    (hall : (backToKw pos (keywordEach kws X.env)).all (·.1.isSome) = true := by rfl) (hks : (backToKw pos (keywordEach kws X.env)).filterMap (·.1) = ks := by rfl) (hdb : (x == ("__debug__" : Str)) = false := by decide)
    (hpl : ((backTo pos (starEach [] X.env)).any (·.1) || (backToKw pos (keywordEach kws X.env)).any (·.1.isNone)) = false := by rfl) :
    PE X (.Call (.Name x p) [] kws pos) (tCallK sp gV E tNil tk) := by
  constructor
  intro pins s σ H Q I h
  apply wpAny_Call_Name_kw
  apply ld_glob I hg hm _ hdb
  apply PySem.W.callWith_KW0 (h₀ := X.base) I.ok.mod.kin hk hall _ hpl
  apply thn (hkw.run pos pins s σ H _ I h)
  rintro ws s2 ⟨zs, H2, I2, rz, q2⟩
  refine ⟨I2.kIn, ?_⟩
  rw [hks]
  exact run_fnk (us := []) (vs := []) F hr hb hx I2 .nil rz q2
end

/-! ## repr of data -/
section
variable {X : Cx}
/-- what repr asks of a datum, and the text that it gives -/
def rRepr (K : PySem.W.Frag) : List V → Hp → VK → Prop := fun xs H Q => ∃ (a : Addr) (d : PyData), xs = [.ref a] ∧ Dp K H (.ref a) d ∧ d.showable = true ∧ d.hasDict = false ∧ d.depth ≤ 60 ∧ d.shown.length ≤ sizeLine ∧ Q (.str d.shown) H
theorem call_repr {k : Nat} (hr : Room k X.A) (hG : X.A.guards = some []) : CallR X (.builtin "repr") (rRepr X.K) := by
  intro pins s σ H xs us Q I r h
  obtain ⟨a, d, rfl, hd, h1, h2, h3, h4, q⟩ := h
  obtain ⟨u, rfl, ru⟩ : ∃ u, us = [u] ∧ RelV (.ref a) u := by
    cases r with
    | cons r1 r2 =>
      cases r2
      exact ⟨_, rfl, r1⟩
  cases ru
  obtain ⟨as, rd⟩ := Dp.reads I d _ _ hd rfl
  have hu := hr.un
  refine repr_of_reads' rd h1 (fun z => ?_) hG (by omega) (fun b o e => e) (fun h' u tk hk => ?_) h4
  · rw [h2] at z
    cases z
  · exact ⟨.str d.shown, H, I.kept hk, ⟨u, rfl⟩, q⟩
end
end Mo

/-! ## The law's own call, its promise run where no repr is under way -/
namespace Mo
open PySem PySem.Spec PyProof.Rows L2
theorem law_coreG {P : Program} {w : World} {K : PySem.W.Frag} {mg mb : Str → Option Value} {k : Nat} {fa a : Addr} {fd : FuncData} {x : Str} {sp : Sp} {s1 : Shared} {vs : List Value} {ns : List Int} {H : Hp}
    (KX : K.In s1.heap) (gl : s1.heap.Ns mainGlobals mg) (bl : s1.heap.Ns builtinsNs mb) (bb : ∀ x : Str, x ≠ "__name__" → mb x = bootBuiltins x) (lim : s1.heap.NoLimit) (gens : s1.gens = #[])
    (obj : s1.heap.get? a = some { cls := .type "list", data := .seq vs.toArray }) (hr : Room k callerA)
    (F : ∀ base : Heap, K.In base → base.Ns mainGlobals mg → FnG P w K mg base CX0 k fa fd [x] sp) (hbind : ∀ (s : Shared) (u : Value), BindsTo s fd ⟨[u], []⟩ [(x, u)])
    (only : Only H) (wish : sp [.ref a] H (fun v _ => v = .bl true) fun _ _ _ => False) (ok : HOk P w H s1.heap) (hA : ∀ b, H b ≠ none → b = a) (hK : H a ≠ none → K.lookup a = none) :
    codeAny (model P w) callerA (.call (.ref fa) ⟨[.ref a], []⟩) (fun r s' => r = .ok (.ret (.bool true)) ∧ OldK s1.heap s'.heap ∧ s'.os = s1.os ∧ AllBare s'.gens) s1 := by
  have free : ∀ {b : Addr} {o : Obj} {es : Array DictEntry} {ep : Nat}, s1.heap.get? b = some o → o.data = .dict es ep → H b = none := by
    intro b o es ep e d
    refine Classical.byContradiction fun n => ?_
    cases hA b n
    rw [obj] at e
    cases e
    cases (show Data.seq vs.toArray _ = Data.dict es ep from d)
  have names : ∀ {b : Addr} {m : Str → Option Value}, s1.heap.Ns b m → (hidT s1.heap H).Ns b m := by
    rintro b m ⟨o, es, ep, e, d, r⟩
    exact ⟨o, es, ep, hidT_get e (free e d), d, r⟩
  have kb : K.In (hidT s1.heap H) := by
    intro b o e
    refine hidT_get (KX b o e) (Classical.byContradiction fun n => ?_)
    cases hA b n
    rw [hK n] at e
    cases e
  have md : Mod K mg (hidT s1.heap H) := by
    obtain ⟨mc, l1, l2⟩ := lim
    exact ⟨kb, names gl, ⟨mb, names bl, bb⟩, ⟨mc, names l1, l2⟩⟩
  have env : Env0 P w K mg (hidT s1.heap H) callerA [] s1 H :=
    ⟨rfl, md, fun b o e => of_hidT e, Nat.le_of_eq (hidT_size _ _), trivial, fun b hb => absurd (show b ∈ ([] : List Addr) from hb) List.not_mem_nil, ok, .of_eq gens⟩
  refine codeAny_mono ((F _ kb (names gl)).go callerA [] s1 H ⟨[.ref a], []⟩ [.ref a] [.ref a] _ _ hr rfl env (hbind s1 (.ref a)) (.cons rfl .nil) wish) ?_
  intro r s' h
  match r, h with
  | .error e, h => exact h.elim
  | .ok .next, h => exact h.elim
  | .ok .brk, h => exact h.elim
  | .ok .cont, h => exact h.elim
  | .ok (.ret u), ⟨v, H', os, bare, un, ok', rv, q⟩ =>
    cases (show v = .bl true from q)
    cases (show u = Value.bool true from rv)
    refine ⟨rfl, OldK.of_keep ?_, os, bare⟩
    intro b o e
    cases z : H b with
    | none => exact un.keep b o e z (fun y => absurd (show b ∈ ([] : List Addr) from y) List.not_mem_nil) List.not_mem_nil
    | some u =>
      cases only b with
      | inl y =>
        rw [z] at y
        cases y
      | inr y =>
        obtain ⟨ob, xs, y⟩ := y
        have e1 := (ok b _ y).1
        have e2 := (ok' b _ (un.frzs b ob _ y)).1
        rw [e] at e1
        cases e1
        exact e2
theorem law_callG {P : Program} {w : World} {K : PySem.W.Frag} {mg mb : Str → Option Value} {k : Nat} {fa a : Addr} {fd : FuncData} {x : Str} {sp : Sp} {s1 : Shared} {vs : List Value} {ns : List Int}
    (KX : K.In s1.heap) (gl : s1.heap.Ns mainGlobals mg) (bl : s1.heap.Ns builtinsNs mb) (bb : ∀ x : Str, x ≠ "__name__" → mb x = bootBuiltins x) (lim : s1.heap.NoLimit) (gens : s1.gens = #[])
    (obj : s1.heap.get? a = some { cls := .type "list", data := .seq vs.toArray }) (hi : IntsAre vs ns) (hl : ns.length ≤ sizeLine) (hr : Room k callerA)
    (F : ∀ base : Heap, K.In base → base.Ns mainGlobals mg → FnG P w K mg base CX0 k fa fd [x] sp) (hbind : ∀ (s : Shared) (u : Value), BindsTo s fd ⟨[u], []⟩ [(x, u)])
    (wish : ∀ H : Hp, Only H → SqL K H a (ns.map V.int) → sp [.ref a] H (fun v _ => v = .bl true) fun _ _ _ => False) :
    codeAny (model P w) callerA (.call (.ref fa) ⟨[.ref a], []⟩) (fun r s' => r = .ok (.ret (.bool true)) ∧ OldK s1.heap s'.heap ∧ s'.os = s1.os ∧ AllBare s'.gens) s1 := by
  have rv := vals_ints hi
  have lenV := hi.length
  by_cases hk : K.lookup a = none
  · let H : Hp := upd (fun _ => none) a (.frz { cls := .type "list", data := .seq vs.toArray } (.lst (ns.map V.int)))
    have at1 : H a = some (.frz { cls := .type "list", data := .seq vs.toArray } (.lst (ns.map V.int))) := upd_same
    have at2 : ∀ b, b ≠ a → H b = none := fun b hb => upd_ne hb
    refine law_coreG (H := H) (ns := ns) KX gl bl bb lim gens obj hr F hbind ?_ ?_ ?_ ?_ (fun _ => hk)
    · intro b
      by_cases hb : b = a
      · cases hb
        exact Or.inr ⟨_, _, at1⟩
      · exact Or.inl (at2 b hb)
    · refine wish H ?_ (Or.inl (Or.inr ⟨_, at1⟩))
      intro b
      by_cases hb : b = a
      · cases hb
        exact Or.inr ⟨_, _, at1⟩
      · exact Or.inl (at2 b hb)
    · intro b u e
      by_cases hb : b = a
      · cases hb
        rw [at1] at e
        cases e
        exact ⟨obj, by rw [List.length_map]; exact hl, vs, _, rv, obj⟩
      · rw [at2 b hb] at e
        cases e
    · intro b n
      exact Classical.byContradiction fun hb => n (at2 b hb)
  · obtain ⟨o, hk⟩ := Option.ne_none_iff_exists'.mp hk
    have e := KX a o hk
    rw [obj] at e
    cases e
    refine law_coreG (H := fun _ => none) (ns := ns) KX gl bl bb lim gens obj hr F hbind (fun _ => Or.inl rfl) (wish _ (fun _ => Or.inl rfl) ?_) ?_ (fun b n => (n rfl).elim) (fun n => (n rfl).elim)
    · exact Or.inr ⟨_, vs.toArray, _, hk, rfl, rfl, rfl, by rw [List.size_toArray, lenV]; exact hl, by simpa using rv⟩
    · intro b u z
      cases z
/-- the goal that k_head leaves, from the law's promise; the script's bits told -/
theorem walk_G {l : PySem.W.OpenLaw} {n k : Nat} {q : Program} {loose : List Str} {XP : (Str → Option Value) → Heap → Prop} {YP : World → Heap → Prop} {d : DefRec} {K : Params → PySem.W.Frag} {sp : World → Sp} {x : Str}
    (hn : l.most = some n) (hn2 : n ≤ sizeLine) (hdf : d.params.defaults = []) (hr : Room k callerA) (hY : ∀ (w : World) (h : Heap), YP w h → (K w.params).In h)
    (F : ∀ (w : World) (mg : Str → Option Value) (fa : Addr) (h : Heap), (K w.params).In h → h.Ns mainGlobals mg → mg d.name = some (.ref fa) → ∃ fd : FuncData, (∀ (s : Shared) (u : Value), BindsTo s fd ⟨[u], []⟩ [(x, u)]) ∧
        ∀ base : Heap, (K w.params).In base → base.Ns mainGlobals mg → FnG l.prog w (K w.params) mg base CX0 k fa fd [x] (sp w))
    (wish : ∀ (w : World) (H : Hp) (a : Addr) (ns : List Int), ns.length ≤ n → (∀ z ∈ ns, Builtin.Int.intBits z ≤ 1048576) → Only H → SqL (K w.params) H a (ns.map V.int) → sp w [.ref a] H (fun v _ => v = .bl true) fun _ _ _ => False) :
    PySem.W.WalkO q loose XP YP l.row.toRowW d [] (fun f vs => PySem.call f vs) := by
  apply Att.attach_callB hn hdf
  intro w s0 s1 mg mb fa o pm cd doc a vs ns G Y _ _ _ hmg hobj hints hlen hbits hg
  have KX := hY w _ Y
  obtain ⟨fd, hb, hF⟩ := F w mg fa _ KX G.T.g hmg
  exact law_callG KX G.T.g G.T.b G.T.builtins G.T.nolimit hg hobj hints (Nat.le_trans hlen hn2) hr hF hb fun H hO hS => wish w H a ns hlen hbits hO hS
end Mo
set_option Elab.async false
set_option linter.all false
set_option maxRecDepth 100000
set_option maxHeartbeats 4000000
namespace Mo
open PySem PySem.Spec PyProof.Rows L2

/-! ## all arguments by name -/
def gK {α : Type} (us ws : List α) : List α := match us with | [] => ws | _ :: _ => []
theorem kb_all {K : PySem.W.Frag} {fd : FuncData} {ps ks : List Str} (hp : ps ≠ []) (h : ∀ us : List Value, us.length = ps.length → bindArgs fd ⟨[], ks.zip us⟩ = pure (ps.zip us)) : KBinds K fd ps ks gK gK := by
  constructor
  · intro s us ws _ hl
    cases us with
    | nil => exact .of_eq (h ws hl)
    | cons a l =>
      exfalso
      apply hp
      exact List.length_eq_zero_iff.mp hl.symm
  · intro vs us zs ws r1 r2
    cases r1 with
    | nil => exact r2
    | cons _ _ => exact .nil
theorem Fun_kb {K : PySem.W.Frag} {x qual : Str} {st : Stmt} {f : Addr} {fd : FuncData} {ps ks : List Str} (F : Fun K x qual st f fd) (hp : ps ≠ [])
    (h : ∀ (kV doc pm : Value) (an : Option Addr) (cdv ct : Value) (us : List Value), us.length = ps.length → bindArgs (PySem.W.fnOf x qual (defArgs st) (defBody st) (defScope st) .none kV doc pm an cdv ct) ⟨[], ks.zip us⟩ = pure (ps.zip us)) :
    KBinds K fd ps ks gK gK := by
  obtain ⟨oc, od, kV, doc, pm, an, cdv, ct, osl, rfl, lk, hcd⟩ := F.ex
  exact kb_all hp (h kV doc pm an cdv ct)

/-! ## the kinds of things, isinstance -/
inductive Ty7 where
  | non | bl | int | str | tup | lst | dic
  deriving DecidableEq
def Ty7.nm : Ty7 → String
  | .non => "NoneType" | .bl => "bool" | .int => "int" | .str => "str" | .tup => "tuple" | .lst => "list" | .dic => "dict"
def Ty7.isi : Ty7 → Ty7 → Bool
  | .non, .non => true | .bl, .bl => true | .bl, .int => true | .int, .int => true | .str, .str => true | .tup, .tup => true | .lst, .lst => true | .dic, .dic => true | _, _ => false
theorem kit7 {K : PySem.W.Frag} (a b : Ty7) (hb : b ≠ .non) : PySem.W.kitOne K (.type a.nm) (.type b.nm) = some (a.isi b) := by
  cases b
  case non => exact absurd rfl hb
  all_goals (cases a <;> exact kit_ty (by decide +kernel))
/-- every sign below 128 -/
def Asc (z : Str) : Prop := ∀ c ∈ z.cps.toList, c < 128
theorem cps_app (x y : Str) : (x ++ y).cps.toList = x.cps.toList ++ y.cps.toList := PySem.W.KT.app_list x y
theorem Asc.app {x y : Str} (hx : Asc x) (hy : Asc y) : Asc (x ++ y) := by
  intro c hc
  rw [cps_app] at hc
  exact (List.mem_append.mp hc).elim (hx c) (hy c)
theorem Asc.by {x : Str} (h : x.cps.toList.all (fun c => decide (c < 128)) = true) : Asc x := fun c hc => of_decide_eq_true (List.all_eq_true.mp h c hc)
theorem Asc.one {z : Str} (h : Asc z) {c : Nat} (hc : c ∈ z.cps.toList) : Asc ⟨#[c]⟩ := by
  intro d hd
  have : d = c := by simpa using hd
  rw [this]
  exact h c hc
theorem Asc.num (i : Int) : Asc (Str.ofString (toString i)) := by
  intro c hc
  rw [Str.ofString_eq_toList] at hc
  obtain ⟨d, hd, rfl⟩ := List.mem_map.mp hc
  exact int_ascii i d hd
theorem Asc.ok {z : Str} (h : Asc z) : PyData.strOk z = true := by
  unfold PyData.strOk
  rw [Array.all_eq_true_iff_forall_mem]
  intro c hc
  have := h c (by simpa using hc)
  exact decide_eq_true (by omega)
theorem dp_strs {K : PySem.W.Frag} {H : Hp} : ∀ l : List Str, DpAll K H (l.map V.str) (l.map PyData.str)
  | [] => .nil
  | y :: l => .cons (.str y) (dp_strs l)
theorem dp_bls {K : PySem.W.Frag} {H : Hp} : ∀ l : List Bool, DpAll K H (l.map V.bl) (l.map PyData.bool)
  | [] => .nil
  | y :: l => .cons (.bl y) (dp_bls l)
theorem lay_strs : ∀ {l : List Str}, (∀ y ∈ l, Asc y) → PyData.canLayAll0 (l.map PyData.str) = true ∧ PyData.depthAll (l.map PyData.str) = 0
  | [], _ => ⟨rfl, rfl⟩
  | y :: l, h => by
    obtain ⟨h1, h2⟩ := lay_strs fun z hz => h z (List.mem_cons_of_mem _ hz)
    constructor
    · show (PyData.strOk y && PyData.canLayAll0 (l.map PyData.str)) = true
      rw [(h y List.mem_cons_self).ok, h1]
      rfl
    · show max 0 (PyData.depthAll (l.map PyData.str)) = 0
      rw [h2]
      rfl
theorem shaped_strs {l : List Str} (h : ∀ y ∈ l, Asc y) : SeqAt.shaped (.list (l.map PyData.str)) = true := by
  obtain ⟨h1, h2⟩ := lay_strs h
  unfold SeqAt.shaped
  rw [Bool.and_eq_true]
  refine ⟨h1, decide_eq_true ?_⟩
  show PyData.depthAll (l.map PyData.str) + 1 ≤ 64
  omega
/-- a thing of one of the seven kinds; a text of at most 5000 plain signs -/
inductive Th (H : Hp) : V → Ty7 → Prop where
  | non : Th H .non .non
  | bl (b : Bool) : Th H (.bl b) .bl
  | int (i : Int) : Th H (.int i) .int
  | str (z : Str) (h : z.length ≤ 5000) (a : Asc z) : Th H (.str z) .str
  | tup {a : Addr} {xs : List V} (h : H a = some (.tup xs)) : Th H (.ref a) .tup
  | lst {a : Addr} {xs : List V} (h : H a = some (.lst xs)) : Th H (.ref a) .lst
  | dK {a : Addr} {kvs : List (Key × V)} (h : H a = some (.dK kvs)) : Th H (.ref a) .dic
  | dT {a : Addr} {kvs : List (List Key × V)} (h : H a = some (.dT kvs)) : Th H (.ref a) .dic
theorem Th.ty {K : PySem.W.Frag} {H : Hp} {v : V} {n : Ty7} (t : Th H v n) : TyX K H v (.type n.nm) := by
  cases t with
  | non => exact .base .non
  | bl b => exact .base (.bl b)
  | int i => exact .base (.int i)
  | str z _ _ => exact .base (.str z)
  | tup h => exact .base (.tup h)
  | lst h => exact .base (.lst h)
  | dK h => exact .base (.dK h)
  | dT h => exact .base (.dT h)
theorem Th.same {H H' : Hp} {v : V} {n : Ty7} (t : Th H v n) (e : Same H H') : Th H' v n := by
  cases t with
  | non => exact .non
  | bl b => exact .bl b
  | int i => exact .int i
  | str z h a => exact .str z h a
  | tup h => exact .tup (e _ _ h)
  | lst h => exact .lst (e _ _ h)
  | dK h => exact .dK (e _ _ h)
  | dT h => exact .dT (e _ _ h)
theorem same_new {H : Hp} {p : Addr} {o : HO} (h : H p = none) : Same H (upd H p o) := fun b u e => by
  rw [upd_ne (ne_of_none e h)]
  exact e
/-- isinstance(x, T) -/
theorem isi_ok {K : PySem.W.Frag} {H : Hp} {v : V} {n : Ty7} {Q : VK} (t : Th H v n) (c : Ty7) (hc : c ≠ .non) (q : Q (.bl (n.isi c)) H) : rIsi K [v, .ty c.nm] H Q :=
  ⟨v, .ty c.nm, .type n.nm, .type c.nm, n.isi c, rfl, .ty _, t.ty, kit7 n c hc, q⟩

/-- things of the seven kinds -/
def AllTh (H : Hp) (xs : List V) : Prop := ∀ x ∈ xs, ∃ n, Th H x n
theorem AllTh.nil (H : Hp) : AllTh H [] := fun _ h => (List.not_mem_nil h).elim
theorem AllTh.cons {H : Hp} {x : V} {xs : List V} {n : Ty7} (t : Th H x n) (h : AllTh H xs) : AllTh H (x :: xs) := by
  intro y hy
  cases List.mem_cons.mp hy with
  | inl e =>
    subst e
    exact ⟨n, t⟩
  | inr e => exact h y e
theorem AllTh.app {H : Hp} {xs ys : List V} (h : AllTh H xs) (k : AllTh H ys) : AllTh H (xs ++ ys) := fun y hy => (List.mem_append.mp hy).elim (h y) (k y)
theorem AllTh.same {H H' : Hp} {xs : List V} (h : AllTh H xs) (e : Same H H') : AllTh H' xs := fun y hy => let ⟨n, t⟩ := h y hy; ⟨n, t.same e⟩
theorem log_le {m : Int} {k : Nat} (h0 : 0 < k) (h : m.natAbs < 2 ^ k) (hk : k ≤ 1920) : m.natAbs.log2 < 1920 := Nat.lt_of_lt_of_le (PySem.Flt.log2_lt_of h0 h) hk
/-! ## names of the module -/
section
variable {X : Cx} {x : Str} {pos : Pos}
theorem pe_gS {z : Str} {t : Tok} (hm : X.mg x = some (.str z t)) (hg : Gl X x := by rfl) (hd : (x == ("__debug__" : Str)) = false := by decide) : PE X (.Name x pos) (tC (.str z)) := pe_glob hg hm ⟨_, rfl⟩ hd
theorem pe_gI {i : Int} {t : Tok} (hm : X.mg x = some (.int i t)) (hg : Gl X x := by rfl) (hd : (x == ("__debug__" : Str)) = false := by decide) : PE X (.Name x pos) (tC (.int i)) := pe_glob hg hm ⟨_, rfl⟩ hd
theorem pe_gR {a : Addr} (hm : X.mg x = some (.ref a)) (hg : Gl X x := by rfl) (hd : (x == ("__debug__" : Str)) = false := by decide) : PE X (.Name x pos) (tC (.ref a)) := pe_glob hg hm rfl hd
theorem pe_ty (T : String) (hm : X.mg x = none) (hv : bootBuiltins x = some (.type T) := by decide +kernel) (hg : Gl X x := by rfl) (hn : x ≠ "__name__" := by decide) (hd : (x == ("__debug__" : Str)) = false := by decide) : PE X (.Name x pos) (tC (.ty T)) := pe_bltn hg hm hv rfl hn hd
end
theorem inV_strs (z : Str) (l : List Str) : inV (.str z) (l.map V.str) = decide (z ∈ l) := by
  induction l with
  | nil => rfl
  | cons y l ih =>
    show ((y == z) || inV (.str z) (l.map V.str)) = _
    rw [ih]
    by_cases h : y = z
    · subst h
      simp
    · have h2 : ¬ z = y := fun e => h e.symm
      simp [h, h2]
theorem len5000 {n : Nat} (h : n ≤ 5000) : n ≤ sizeLine := Nat.le_trans h (by decide)
theorem lt5000 {n : Nat} (h : n < 5000) : n < sizeLine := Nat.lt_trans h (by decide)
theorem at_in {α : Type} {l : List α} {d : Int} (h0 : 0 ≤ d) (h1 : d < (l.length : Int)) : ∃ c, atI l d = some c ∧ c ∈ l := by
  obtain ⟨j, rfl⟩ := Int.eq_ofNat_of_zero_le h0
  have hj : j < l.length := by omega
  exact ⟨l[j], atI_nat (by simp [hj]), List.getElem_mem hj⟩
theorem Asc.cut {z : Str} (h : Asc z) (lo hi : Option Int) : Asc (cutS z lo hi) := by
  intro c hc
  refine h c ?_
  have hc : c ∈ ((z.cps.toList.drop (HT.sIx z.length 0 lo)).take (HT.sIx z.length z.length hi - HT.sIx z.length 0 lo)) := by
    have := hc
    simpa [cutS] using this
  exact List.mem_of_mem_drop (List.mem_of_mem_take hc)
theorem cut_two (z : Str) {a : Int} (h : 0 ≤ a) : (cutS z none (some a)).length + (cutS z (some a) none).length ≤ z.length := by
  have e : ∀ d, HT.sIx z.length d (some a) = min a.toNat z.length := fun d => if_neg (by omega)
  have e1 : (cutS z none (some a)).length = min (HT.sIx z.length z.length (some a) - 0) z.length := by
    show (((z.cps.toList.drop 0).take (HT.sIx z.length z.length (some a) - 0)).toArray).size = _
    rw [List.size_toArray, List.length_take, List.length_drop, Array.length_toList]
    rfl
  have e2 : (cutS z (some a) none).length = min (z.length - HT.sIx z.length 0 (some a)) (z.length - HT.sIx z.length 0 (some a)) := by
    show (((z.cps.toList.drop (HT.sIx z.length 0 (some a))).take (z.length - HT.sIx z.length 0 (some a))).toArray).size = _
    rw [List.size_toArray, List.length_take, List.length_drop, Array.length_toList]
    rfl
  rw [e1, e2, e, e]
  omega
theorem one_length (c : Nat) : (⟨#[c]⟩ : Str).length = 1 := rfl
theorem app_length (x y : Str) : (x ++ y).length = x.length + y.length := strLen_append x y
/-! ## the source of draws -/
def Src (H : Hp) (a : Addr) : Prop := ∃ x y c : Int, H a = some (.lst [.int x, .int y, .int c]) ∧ 0 ≤ x ∧ x ≤ 2147483587
/-- all that was known stays, but for what stands at a -/
def KeepBut (a : Addr) (H H' : Hp) : Prop := ∀ b o, b ≠ a → H b = some o → H' b = some o
theorem KeepBut.refl (a : Addr) (H : Hp) : KeepBut a H H := fun _ _ _ h => h
theorem KeepBut.trans {a : Addr} {H H1 H2 : Hp} (x : KeepBut a H H1) (y : KeepBut a H1 H2) : KeepBut a H H2 := fun b o n h => y b o n (x b o n h)
theorem KeepBut.of_same {a : Addr} {H H' : Hp} (e : Same H H') : KeepBut a H H' := fun b o _ h => e b o h
theorem KeepBut.upd (a : Addr) (H : Hp) (o : HO) : KeepBut a H (L2.upd H a o) := fun b u n h => by
  rw [upd_ne n]
  exact h
theorem Src.same {H H' : Hp} {a : Addr} (s : Src H a) (e : Same H H') : Src H' a := by
  obtain ⟨x, y, c, h, r⟩ := s
  exact ⟨x, y, c, e _ _ h, r⟩
/-- what a draw promises -/
def spTake : Sp := fun vs H Q _ => ∃ (a : Addr) (m : Int), vs = [.ref a, .int m] ∧ Src H a ∧ 0 < m ∧ m < 1073741824 ∧ ∀ (d : Int) (H' : Hp), 0 ≤ d → d < m → Src H' a → KeepBut a H H' → Q (.int d) H'
def spSource : Sp := fun vs H Q _ => ∃ n : Int, vs = [.int n] ∧ ∀ (p : Addr) (H' : Hp), H p = none → Same H H' → Src H' p → Q (.ref p) H'
def spNumber (K : PySem.W.Frag) : Sp := fun vs H Q _ => ∃ (a : Addr) (ns : List Int) (k : Int), vs = [.ref a, .int k] ∧ SqL K H a (ns.map V.int) ∧ (∀ z ∈ ns, Builtin.Int.intBits z ≤ 1048576) ∧ 0 ≤ k ∧ k ≤ 1000 ∧
  ∀ (n : Int) (H' : Hp), Same H H' → Q (.int n) H'
end Mo
set_option Elab.async false
set_option linter.all false
set_option maxRecDepth 100000
set_option maxHeartbeats 4000000
namespace Mo
open PySem PySem.Spec PyProof.Rows L2

/-- a tuple of the written part -/
theorem sqt_K {K : PySem.W.Frag} {H : Hp} {a : Addr} {dd : Option Addr} {vs : Array Value} {n : Nat} {sl : Array (Option Value)} {xs : List V} (h : K.lookup a = some ⟨.type "tuple", dd, .seq vs n, sl⟩) (hz : vs.size ≤ sizeLine) (r : Vals xs vs.toList) : SqT K H a xs :=
  .inr ⟨_, vs, n, h, rfl, rfl, hz, r⟩
theorem kit_of_sub {K : PySem.W.Frag} {C : Addr} {T : String} {b : Bool} (ci : PySem.W.isClsIn K C = true) (tc : PySem.W.typeIn K (.ref C) = some (.type "type")) (sb : PySem.W.subIn K (.type T) (.ref C) = some b) : PySem.W.kitOne K (.type T) (.ref C) = some b := by
  unfold PySem.W.kitOne
  rw [if_neg (show ¬ (Value.type T == Value.ref C) = true from Bool.false_ne_true)]
  show (if ((PySem.W.clsIn K C).isSome && PySem.W.typeIn K (.ref C) == some (.type "type")) = true then PySem.W.subIn K (.type T) (.ref C) else none) = some b
  rw [tc, show (PySem.W.clsIn K C).isSome = true from ci]
  exact sb
theorem kit_self {K : PySem.W.Frag} (v : Value) : PySem.W.kitOne K v v = some true := by
  unfold PySem.W.kitOne
  rw [if_pos (by simp)]
/-! ## a def called beneath a built-in of this frame -/
section
variable {X : Cx} {CX : CXT} {k : Nat} {f C : Addr} {fd : FuncData} {ps : List Str} {sp : Sp} {E : XK}
theorem run_under {pins : List (Addr × Obj)} {σ : L2.St} {H : Hp} {s : Shared} {Q : VK} {us : List Value} {vs : List V} {A : Around} (F : FnOk X.prog X.w X.K X.mg X.base CX k f fd ps sp) (hr : Room k A) (hfr : A.frames = X.A.frames)
    (hb : Binds X.K fd ps []) (hx : Passes CX X E) (I : Inv X pins σ H s) (r : Vals vs us) (h : sp vs H Q E) : wpAny (model X.prog X.w) A (call (.ref f) us) (EP X pins σ Q) X.xe s := by
  have hl := r.length
  rw [F.len _ _ _ _ h] at hl
  have e0 : Env0 X.prog X.w X.K X.mg X.base A X.stack s H := by
    have e := I.env0
    exact ⟨by rw [hfr]; exact e.frames, e.mod, e.bs, e.bsz, e.funs, e.frf, e.hok, e.bare⟩
  have hbs := hb s us I.kIn (by rw [List.append_nil]; exact hl.symm)
  rw [List.append_nil] at hbs
  refine wpAny_call (codeAny_mono (F.run A X.stack s H ⟨us, []⟩ us vs Q E hr e0 hbs r h) ?_)
  intro r s' hq
  match r, hq with
  | .error e, hq => exact hx pins σ H s e s' I hq
  | .ok (.ret u), hq => exact I.after hq
  | .ok .next, hq => exact hq.elim
  | .ok .brk, hq => exact hq.elim
  | .ok .cont, hq => exact hq.elim
/-- what is asked of a class's own special method -/
structure Spc (K : PySem.W.Frag) (C : Addr) (n : Str) (f : Addr) : Prop where
  at_ : PySem.W.findIn K (.ref C) n = some (some (.ref f))
  fn : PySem.W.isFn K (.ref f) = true
/-- repr(o) by the own __repr__ -/
theorem call_reprO (F : FnOk X.prog X.w X.K X.mg X.base CX k f fd ps sp) (hr : Room (k + 1) X.A) (S : Spc X.K C "__repr__" f) (hb : Binds X.K fd ps []) (hx : Passes CX X E) :
    CallR X (.builtin "repr") (fun xs H Q => ∃ a dx fs, xs = [.ref a] ∧ H a = some (.ins C dx fs) ∧ sp [.ref a] H (fun v H' => ∃ z : Str, v = .str z ∧ Q v H') E) := by
  intro pins s σ H xs us Q I r h
  obtain ⟨a, dx, fs, rfl, ha, h⟩ := h
  obtain ⟨u, rfl, ru⟩ := vals1 r
  cases ru
  obtain ⟨mA, J, _⟩ := ins_get I.hok ha
  obtain ⟨od, J, _⟩ := J.look
  obtain ⟨m, hF⟩ := I.fr
  have hu := hr.un
  refine PySem.W.repr_K (by show X.A.units + 1 < cLine; omega) hF I.ok.mod.kin J S.at_ S.fn ?_
  refine wpAny_mono (run_under (A := X.A.in1) (vs := [.ref a]) F hr.in1 rfl hb hx I (.cons rfl .nil) h) (fun v s' hv => ?_) fun _ _ e => e
  obtain ⟨v', H', I', rv, z, rfl, q⟩ := hv
  obtain ⟨t, rfl⟩ := rv
  exact ⟨.str z, H', I', ⟨t, rfl⟩, q⟩
/-- len(o) by the own __len__ -/
theorem call_lenO (F : FnOk X.prog X.w X.K X.mg X.base CX k f fd ps sp) (hr : Room (k + 1) X.A) (S : Spc X.K C "__len__" f) (hb : Binds X.K fd ps []) (hx : Passes CX X E) :
    CallR X (.builtin "len") (fun xs H Q => ∃ a dx fs, xs = [.ref a] ∧ H a = some (.ins C dx fs) ∧ sp [.ref a] H (fun v H' => ∃ n : Int, v = .int n ∧ (0 ≤ n ∧ n < 2 ^ 63) ∧ Q v H') E) := by
  intro pins s σ H xs us Q I r h
  obtain ⟨a, dx, fs, rfl, ha, h⟩ := h
  obtain ⟨u, rfl, ru⟩ := vals1 r
  cases ru
  obtain ⟨mA, J, _⟩ := ins_get I.hok ha
  obtain ⟨od, J, _⟩ := J.look
  obtain ⟨m, hF⟩ := I.fr
  refine PySem.W.len_K hF I.ok.mod.kin J S.at_ S.fn ?_
  refine wpAny_mono (run_under (A := X.A.in1) (vs := [.ref a]) F hr.in1 rfl hb hx I (.cons rfl .nil) h) (fun v s' hv => ?_) fun _ _ e => e
  obtain ⟨v', H', I', rv, n, rfl, hn, q⟩ := hv
  obtain ⟨t, rfl⟩ := rv
  exact ⟨hn, .int n, H', I'.tok _, ⟨_, rfl⟩, q⟩

/-- o == y by the own __eq__: what y is must be known -/
def rEqO (K : PySem.W.Frag) (C : Addr) (sp : Sp) (E : XK) (g : Bool → Bool) : R2 := fun x y H Q => ∃ a dx fs t, x = .ref a ∧ H a = some (.ins C dx fs) ∧ TyX K H y t ∧ PySem.W.notFirst K C t = true ∧
  sp [x, y] H (fun v H' => ∃ b, v = .bl b ∧ Q (.bl (g b)) H') E
theorem op_eqO (F : FnOk X.prog X.w X.K X.mg X.base CX k f fd ps sp) (hr : Room k X.A) (S : Spc X.K C "__eq__" f) (hb : Binds X.K fd ps []) (hx : Passes CX X E) : OpR X (compareOp .Eq) (rEqO X.K C sp E id) := by
  intro pins s σ H x y v u Q I rx ry h
  obtain ⟨a, dx, fs, t, rfl, ha, ty, hn, h⟩ := h
  cases rx
  obtain ⟨mA, J, _⟩ := ins_get I.hok ha
  obtain ⟨od, J, _⟩ := J.look
  obtain ⟨m, hF⟩ := I.fr
  obtain ⟨P, Z, p, _⟩ := kit_of I ry ty
  show wpAny (model X.prog X.w) X.A (richCompare .Eq (.ref a) u) (EP X pins σ Q) X.xe s
  refine PySem.W.cmp_K (op := .Eq) (tb := t) hr.units0 hF I.ok.mod.kin J (Z.ty _ _ I.kIn p) hn S.at_ S.fn ?_
  refine wpAny_mono (run_under (A := X.A) (vs := [.ref a, y]) F hr rfl hb hx I (.cons rfl (.cons ry .nil)) h) (fun v s' hv => ?_) fun _ _ e => e
  obtain ⟨v', H', I', rv, b, rfl, q⟩ := hv
  cases rv
  exact ⟨.bl b, H', I', rfl, q⟩
end
end Mo
namespace MoNe
open PySem PySem.W PySem.Calls PyProof.Rows
theorem ne_bind (self : Value) : bindSpecial (.builtin "object.__ne__") self = pure (.builtin "object.__ne__", [self]) :=
  (Slot.of (T := "object") (name := "__ne__") (owner := "object") (n := "__ne__") (by rw [typeLookup_type, builtinLookup_eq_fast]; kernel_rfl) (by decide +kernel) (by decide +kernel) (by decide +kernel)
    (by first | exact .inl (by decide +kernel) | exact .inr (by decide +kernel)) (by rw [isSubtype_type]; kernel_rfl)).bind self
section
variable {prog : Program} {w : World} {A : Around} {E : Value → Shared → Prop} {s : Shared} {K : Frag} {x C f : Addr} {ox : Obj} {od : Option Obj} {b tb : Value}
theorem ne_code {R : Result → Shared → Prop} (hu : A.units + 1 < cLine) (X : K.In s.heap) (I : InstAt s.heap x ox C od) (he : findIn K (.ref C) "__eq__" = some (some (.ref f))) (hf : isFn K (.ref f) = true) (hm : mroIn K C (.type "object") = some true)
    (h : wpAny (model prog w) A.in1 (call (.ref f) [.ref x, b]) (fun v s' => ∃ r, v = .bool r ∧ R (.ok (.ret (.bool (!r)))) s') (fun e s' => R (.error e) s') s) :
    codeAny (model prog w) A (.call (.builtin "object.__ne__") ⟨[.ref x, b], []⟩) R s := by
  have sub : Looks (model prog w) s.heap (isInstance (.ref x) (.type "object")) true := I.type.andThen (looks_mroIn X hm)
  obtain ⟨hp, g, d, t, os⟩ := s
  refine codeAny_call_builtin (by decide +kernel) PySem.F.cmpEntry_ne (@check_slot (model prog w) _ _ ⟨hp, g, d, t, os⟩ "object.__ne__" "object" "__ne__" (.ref x) [b] [] _ PySem.F.cmpKind_ne PySem.F.cmpSplit_ne sub (PySem.F.cmpArgs_ne _ _) ?_)
  have go : wpAny (model prog w) A.in1 (callSpecialIfBound? (.ref x) "__eq__" [b]) (fun v s' => ∃ r, v = some (.bool r) ∧ R (.ok (.ret (.bool (!r)))) s') (fun e s' => R (.error e) s') ⟨hp, g, d, t, os⟩ :=
    ifBound_K X I he hf (wpAny_mono h (fun v s' hv => let ⟨r, e, q⟩ := hv; ⟨r, by rw [e], q⟩) fun _ _ e => e)
  unfold Builtin.«object.__ne__»
  refine wpAny_bind (wpAny_pure ?_)
  refine wpAny_bind (wpAny_cRoomFor (by show A.units + 1 < cLine; omega) ?_)
  refine wpAny_bind (wpAny_mono go (fun v s' hv => ?_) fun _ _ e => e)
  obtain ⟨r, rfl, q⟩ := hv
  exact wpAny_bind (wpAny_pure (wpAny_pure q))
theorem ne_K {L : Addr} {h₀ : Heap} {m : Str → Option Value} {Q : Value → Shared → Prop} (hu : A.units + 1 < cLine) (F : Fr h₀ L s.heap m) (X₀ : K.In h₀) (I : InstAt s.heap x ox C od) (hb : Looks (model prog w) s.heap (typeOf b) tb) (hn : notFirst K C tb = true)
    (hs : findIn K (.ref C) "__ne__" = some (some (.builtin "object.__ne__"))) (he : findIn K (.ref C) "__eq__" = some (some (.ref f))) (hf : isFn K (.ref f) = true) (hm : mroIn K C (.type "object") = some true)
    (h : wpAny (model prog w) A.in1 (call (.ref f) [.ref x, b]) (fun v s' => ∃ r, v = .bool r ∧ Q (.bool (!r)) s') E s) : wpAny (model prog w) A (richCompare .NotEq (.ref x) b) Q E s := by
  have X := X₀.keeps F.keep
  have one : wpAny (model prog w) A (tryCompare (.ref x) "__ne__" b) (fun r s' => ∃ v, r = some v ∧ Q v s') E s := by
    unfold tryCompare
    have go : wpAny (model prog w) A (call (.builtin "object.__ne__") [.ref x, b]) (fun v s' => ∃ r, v = .bool r ∧ Q (.bool r) s') E s :=
      wpAny_call (ne_code hu X I he hf hm (wpAny_mono h (fun v s' hv => let ⟨r, e, q⟩ := hv; ⟨r, e, _, rfl, q⟩) fun _ _ e => e))
    have fin : wpAny (model prog w) A (call (.builtin "object.__ne__") ([.ref x] ++ [b]) >>= fun v => pure (some v)) (fun r s' => ∃ q, r = some (.bool q) ∧ Q (.bool q) s') E s :=
      wpAny_bind (wpAny_mono go (fun v s' hv => let ⟨r, e, q⟩ := hv; wpAny_pure ⟨r, by rw [e], q⟩) fun _ _ e => e)
    refine wpAny_bind (m := callSpecialIfBound? (.ref x) "__ne__" [b]) ?_
    refine wpAny_mono (Q := fun r s' => ∃ q, r = some (.bool q) ∧ Q (.bool q) s') ?_ (fun r s' hr => ?_) (fun _ _ e => e)
    · simp only [callSpecialIfBound?, bindSpecialIfBound?]
      refine wpAny_holding (wpAny_bind (wpAny_bind (wpAny_bind (I.type.here ((looks_findIn X hs).here ?_)))))
      refine wpAny_bind (wpAny_askSetting (wpAny_ite ?_))
      split
      · exact wpAny_bind (wpAny_of_eq (ne_bind _) (wpAny_pure (by exact fin)))
      · exact wpAny_tryCatch (wpAny_bind (wpAny_of_eq (ne_bind _) (wpAny_pure (by exact fin))))
    · obtain ⟨q, rfl, hq⟩ := hr
      exact wpAny_pure ⟨_, rfl, hq⟩
  unfold richCompare
  simp only [oneThing_ref]
  refine wpAny_holding (wpAny_bind (wpAny_cRoomFor (by omega) ?_))
  refine wpAny_bind (I.type.here (wpAny_bind (hb.here ?_)))
  have fin : ∀ r s', (∃ v, r = some v ∧ Q v s') → ∃ v, r = some v ∧ Q v s' := fun _ _ h => h
  split
  · rename_i q
    have e : subIn K tb (.ref C) = some false := by
      rcases Bool.or_eq_true_iff.mp hn with e | e
      · rw [beq_iff_eq.mp e] at q
        simp at q
      · exact beq_iff_eq.mp e
    refine wpAny_bind ((looks_subIn X e).here ?_)
    simp only [Bool.false_eq_true, if_false]
    refine wpAny_bind (wpAny_mono one ?_ fun _ _ e => e)
    rintro r s' ⟨v, rfl, hq⟩
    exact wpAny_pure hq
  · refine wpAny_bind (wpAny_pure ?_)
    simp only [Bool.false_eq_true, if_false]
    refine wpAny_bind (wpAny_mono one ?_ fun _ _ e => e)
    rintro r s' ⟨v, rfl, hq⟩
    exact wpAny_pure hq
end
end MoNe
namespace Mo
open PySem PySem.Spec PyProof.Rows L2
section
variable {X : Cx} {CX : CXT} {k : Nat} {f C : Addr} {fd : FuncData} {ps : List Str} {sp : Sp} {E : XK}
/-- o != y: by the own __eq__, turned -/
theorem op_neO (F : FnOk X.prog X.w X.K X.mg X.base CX k f fd ps sp) (hr : Room (k + 1) X.A) (S : Spc X.K C "__eq__" f) (hne : PySem.W.findIn X.K (.ref C) "__ne__" = some (some (.builtin "object.__ne__"))) (hm : PySem.W.mroIn X.K C (.type "object") = some true)
    (hb : Binds X.K fd ps []) (hx : Passes CX X E) : OpR X (compareOp .NotEq) (rEqO X.K C sp E not) := by
  intro pins s σ H x y v u Q I rx ry h
  obtain ⟨a, dx, fs, t, rfl, ha, ty, hn, h⟩ := h
  cases rx
  obtain ⟨mA, J, _⟩ := ins_get I.hok ha
  obtain ⟨od, J, _⟩ := J.look
  obtain ⟨m, hF⟩ := I.fr
  obtain ⟨P, Z, p, _⟩ := kit_of I ry ty
  have hu := hr.un
  show wpAny (model X.prog X.w) X.A (richCompare .NotEq (.ref a) u) (EP X pins σ Q) X.xe s
  refine MoNe.ne_K (tb := t) (by omega) hF I.ok.mod.kin J (Z.ty _ _ I.kIn p) hn hne S.at_ S.fn hm ?_
  refine wpAny_mono (run_under (A := X.A.in1) (vs := [.ref a, y]) F hr.in1 rfl hb hx I (.cons rfl (.cons ry .nil)) h) (fun v s' hv => ?_) fun _ _ e => e
  obtain ⟨v', H', I', rv, b, rfl, q⟩ := hv
  cases rv
  exact ⟨b, rfl, .bl (!b), H', I', rfl, q⟩
/-- t.count(x), data -/
theorem mt_tcount (hu : X.A.units + 66 < cLine) : MtR X "tuple.count" (fun x xs H Q => ∃ (a : Addr) (y : V) (d : PyData) (ds : List PyData) (zs : List V), x = V.ref a ∧ xs = [y] ∧ SqT X.K H a zs ∧ DpAll X.K H zs ds ∧ Dp X.K H y d ∧
    PyData.canLayAll0 ds = true ∧ SeqAt.shaped d = true ∧ Q (.int (ds.countP fun z => PyData.eqv z d : Nat)) H) := by
  intro pins s σ H x xs v us Q I rx rs h
  obtain ⟨a, y, d, ds, zs, rfl, rfl, hq, hz, hd, sd, se, q⟩ := h
  cases rx
  obtain ⟨u, rfl, ru⟩ := vals1 rs
  obtain ⟨its, r, pl, _⟩ := I.tuple hq
  obtain ⟨⟨cls, dd, dt, sl⟩, ho, hc, n, hdt⟩ := pl
  simp only at hc hdt
  subst hc
  subst hdt
  obtain ⟨as, r1⟩ := Dp.readsAll I ds zs its hz r
  obtain ⟨bs, r2⟩ := Dp.reads I d y u hd ru
  have e1 : (its.toArray.toList.countP fun y => PyData.eqv (SeqAt.readOf s.heap y) d) = ds.countP fun z => PyData.eqv z d := by
    rw [← SeqAt.readsAll_map ds _ _ sd r1, List.countP_map]
    rfl
  have dp := SeqAt.depth_of_shaped se
  refine call_meets PySem.F.slot_tuple_count ⟨_, ho, rfl⟩ PySem.F.entry_tuple_count (PySem.F.args_tuple_count_2 _ _) (SeqAt.tuple_countAt a its.toArray n dd sl u (fun y => PyData.eqv (SeqAt.readOf s.heap y) d))
    ⟨ho, ?_, ?_⟩
  · refine SeqAt.items_eqAt (by simpa using r1) r2 sd (SeqAt.canLay_of_shaped se) ?_
    have := Nat.min_le_right (PyData.depthAll ds) d.depth
    show X.A.units + 1 + _ < cLine
    omega
  · rw [e1]
    exact ⟨.int _, H, I.tok _, ⟨_, rfl⟩, q⟩
end
end Mo
namespace MoEn
open PySem
open Sem (wp)
open AutoSeq1 (wpAny_loadPart')
set_option maxHeartbeats 1000000 in
theorem new_tup (l : Addr) (items : Array Value) (n : Nat) (dct : Option Addr) (sl : Array (Option Value)) :
    Meets (Builtin.«enumerate.__new__» ⟨[.type "enumerate", .ref l], []⟩) (fun _ R s => s.heap.get? l = some { cls := .type "tuple", dict := dct, data := .seq items n, slots := sl } ∧
      R (.ok (.ret (.ref (s.heap.push { cls := .type "tuple_iterator", data := .fields #[.ref l, .int 0 0] }).objs.size)))
        { s with heap := (s.heap.push { cls := .type "tuple_iterator", data := .fields #[.ref l, .int 0 0] }).push { cls := .type "enumerate", data := .fields #[.none, .bool false, .ref s.heap.objs.size, rawInt 0, .none, .none] } }) := by
  refine .of_wp ?_
  rintro prog w A R ⟨hp, g, d, tk, os⟩ ⟨hl, h⟩
  have hsub := sub_enumerate
  have hL : Heap.IsTuple (Shared.heap ⟨hp, g, d, tk, os⟩) l items := ⟨_, hl, rfl, n, rfl⟩
  wp_walk using wpAny_loadPart' hl
  refine wpAny_stack_any fun st => wpAny_pure ?_
  split
  · rename_i c _ _ _ _ _
    cases (c == Value.type "enumerate") <;> (wp_walk using wpAny_loadPart' hl, wpAny_pyIter_tuple hL; exact ⟨_, rfl, h⟩)
  · wp_walk using wpAny_loadPart' hl, wpAny_pyIter_tuple hL
    exact ⟨_, rfl, h⟩
theorem call_tup {prog : Program} {w : World} {A : Around} {E : Value → Shared → Prop} {s : Shared} {l : Addr} {items : Array Value} {Q : Value → Shared → Prop} (hL : s.heap.IsTuple l items)
    (h : ∀ h', IsEnum h' (s.heap.objs.size + 1) s.heap.objs.size 0 .none → h'.IsTupleIter s.heap.objs.size l 0 → (∀ b o, s.heap.get? b = some o → h'.get? b = some o) → Q (.ref (s.heap.objs.size + 1)) { s with heap := h' }) :
    wpAny (model prog w) A (call (.type "enumerate") [.ref l]) Q E s := by
  obtain ⟨⟨c, dct, dt, sl⟩, hl, hc, n, hd⟩ := hL
  cases (show c = .type "tuple" from hc)
  cases (show dt = .seq items n from hd)
  refine callType_new F.called_enumerate (by decide) (F.typeCall_enumerate_1 _) (F.newCall_enumerate_1 _) (fun obj => F.args_object_init_2 obj _) F.entry_enumerate_new (new_tup l items n dct sl) ⟨hl, ?_⟩
  have sz : (s.heap.push { cls := .type "tuple_iterator", data := .fields #[.ref l, .int 0 0] }).objs.size = s.heap.objs.size + 1 := Heap.size_push ..
  show _ ∧ _
  rw [sz]
  have en := Heap.get?_push_size (s.heap.push { cls := .type "tuple_iterator", data := .fields #[.ref l, .int 0 0] }) (o := { cls := .type "enumerate", data := .fields #[.none, .bool false, .ref s.heap.objs.size, rawInt 0, .none, .none] }) rfl
  rw [sz] at en
  exact ⟨⟨_, en, rfl⟩, h _ en ⟨_, Heap.get?_push_of_some _ (Heap.get?_push_size _ rfl), rfl, rfl⟩ fun b o x => Heap.get?_push_of_some _ (Heap.get?_push_of_some _ x)⟩
end MoEn
namespace Mo
open PySem PySem.Spec PyProof.Rows L2
/-- enumerate(tuple): the tuple at a, each item in a new pair -/
def IteT (K : PySem.W.Frag) (a : Addr) : It :=
  ⟨fun i H => ∃ (xs : List V) (x : V), SqT K H a xs ∧ xs[i]? = some x, fun i H v H' => ∃ T x, v = .ref T ∧ H T = none ∧ H' = upd H T (.tup [.int (i : Nat), x]) ∧ ∀ xs, SqT K H a xs → xs[i]? = some x, fun i H => ∃ xs : List V, SqT K H a xs ∧ xs.length = i⟩
theorem turn_enumT {P : Program} {w : World} {K : PySem.W.Frag} {elts : List Expr} {kk : Nat} {tpos : Pos} (a e it : Addr) (hae : a ≠ e) (hai : a ≠ it) :
    Turn P w K (.Tuple elts kk tpos) (IteT K a) [e, it] e (fun i h => (∃ old, IsEnum h e it ((i : Nat) : Int) old) ∧ h.IsTupleIter it a i ∧ e ≠ it) where
  mem := List.mem_cons_self
  obj := by
    rintro i h ⟨⟨old, he⟩, ⟨o, ho, hc, hd⟩, _⟩ b hb
    rcases List.mem_cons.mp hb with rfl | hb
    · exact ⟨_, he, fun v q => nomatch q⟩
    · cases List.mem_singleton.mp hb
      refine ⟨o, ho, fun v q => ?_⟩
      rw [hd] at q
      cases q
  keep := by
    rintro i h h' ⟨⟨old, he⟩, hi, hne⟩ k
    exact ⟨⟨old, k e (by simp) _ he⟩, hi.at fun o q => k it (by simp) o q, hne⟩
  item := by
    intro X hP hw hK hc i pins s σ H E I hf st hg
    subst hP hw hK
    obtain ⟨⟨old, he⟩, hit, hne⟩ := st
    obtain ⟨xs, x, hq, hx⟩ := hg
    obtain ⟨its, rv, p, hz⟩ := I.tuple hq
    obtain ⟨u, hu, ru⟩ := rv.get hx
    have hil : i < its.toArray.size := by
      rw [List.size_toArray]
      exact (List.getElem?_eq_some_iff.mp hu).1
    have hel : e < s.heap.objs.size := Heap.lt_size he
    have hit2 : it < s.heap.objs.size := by
      obtain ⟨_, q, _⟩ := hit
      exact Heap.lt_size q
    refine wpAny_pyNext_enum_itemD (Draws.tuple (A := X.A.in1) (I.ok.hd hc) it a hai its.toArray) he ⟨hit, p⟩ hil hne (by simp [hne, Ne.symm hae]) ?_
    intro y h' tk hy ho hst hT hsz hk
    have ey : y = u := by
      have : its.toArray[i]? = some y := hy
      rw [List.getElem?_toArray, hu] at this
      exact (Option.some.inj this).symm
    subst ey
    refine ⟨_, rfl, wpAny_letOwnedTupleGo_enum (s := { s with heap := h', toks := tk + 1 }) ho fun h'' he' sb => ?_⟩
    have hT2 : h''.get? s.heap.objs.size = some { cls := .type "tuple", data := .seq #[.int i tk, y] } := (sb.2 _ (Nat.ne_of_gt hel)).trans hT
    have new : ObjOk X.prog X.w (upd H s.heap.objs.size (.tup [.int (i : Nat), x])) h'' s.heap.objs.size (.tup [.int (i : Nat), x]) :=
      ⟨by show 2 ≤ sizeLine; decide, [.int i tk, y], .cons ⟨_, rfl⟩ (.cons ru .nil), ⟨_, hT2, rfl, _, rfl⟩⟩
    have I1 : Inv X pins σ (upd H s.heap.objs.size (.tup [.int (i : Nat), x])) { s with heap := h'', toks := tk + 1 } := by
      refine I.turnedNew (ch := [e, it]) ?_ hf (Nat.le_refl _) new
      intro b ob hb q
      have h1 : b ≠ e := fun z => hb (by simp [z])
      have h2 : b ≠ it := fun z => hb (by simp [z])
      exact (sb.2 b h1).trans (hk b ob h1 h2 q)
    refine ⟨.ref s.heap.objs.size, _, I1, rfl, ⟨_, x, rfl, I.hok.fresh (Nat.le_refl _), rfl, fun ys hy2 => ?_⟩, ⟨⟨y, ?_⟩, hst.1.at fun o q => (sb.2 it (Ne.symm hne)).trans q, hne⟩, fun b hb => ?_⟩
    · rw [I.tuple_inj hy2 hq]
      exact hx
    · have e1 : ((i + 1 : Nat) : Int) = (i : Int) + 1 := by omega
      rw [e1]
      exact he'
    · have hb' : b < s.heap.objs.size := by
        rcases List.mem_cons.mp hb with rfl | hb
        · exact hel
        · cases List.mem_singleton.mp hb
          exact hit2
      rw [upd_ne (Nat.ne_of_lt hb')]
      exact (hf b hb).1
  done := by
    intro X hP hw hK hc i pins s σ H E I hf st hg
    subst hP hw hK
    obtain ⟨⟨old, he⟩, hit, hne⟩ := st
    obtain ⟨xs, hq, hx⟩ := hg
    obtain ⟨its, rv, p, hz⟩ := I.tuple hq
    obtain ⟨f0, f1, f2, f3, f4, f5⟩ := hf it (by simp)
    have hi : i = its.toArray.size := by
      rw [List.size_toArray, ← rv.length]
      exact hx.symm
    subst hi
    refine wpAny_pyNext_enum_endD (Draws.tuple (A := X.A.in1) (I.ok.hd hc) it a hai its.toArray) he ⟨hit, p⟩ ?_
    intro h' eb
    exact ⟨rfl, I.turned (t' := s.toks) (fun b o hb q => eb b o hb q) f0 f1 f3 f4 f5⟩
  self := fun A i s Q E st h => let ⟨⟨_, he⟩, _⟩ := st; wpAny_pyIter_enum he h
def iEnumT (K : PySem.W.Frag) (ta : TA) : TI := fun σ H R => ta σ H fun vs H1 => ∃ a xs, vs = [.ref a] ∧ SqT K H1 a xs ∧ R (IteT K a) H1
theorem pi_enumT {X : Cx} {e : Expr} {ta : TA} {p pos tpos : Pos} {elts : List Expr} {kk : Nat} (hg : Gl X "enumerate") (hm : X.mg "enumerate" = none) (ha : PA X [e] ta) (hs : starEach [e] X.env = [(false, eval e X.env)] := by rfl) :
    PI X (.Tuple elts kk tpos) (.Call (.Name "enumerate" p) [e] [] pos) (iEnumT X.K ta) := by
  constructor
  intro pins s σ H R I h
  refine Call_ (ld_blt I hg hm boot_enumerate (PyProof.Rows.callWith_type1 (thn (ha.run pos pins s σ H _ I h) ?_) hs rfl))
  rintro us s1 ⟨vs, H1, I1, r1, a, xs, rfl, hq, q⟩
  obtain ⟨u, rfl, ru⟩ := vals1 r1
  cases ru
  obtain ⟨its, rv, p', hz⟩ := I1.tuple hq
  have hlt : a < s1.heap.objs.size := by
    obtain ⟨_, z, _⟩ := id p'
    exact Heap.lt_size z
  refine MoEn.call_tup p' fun h' he hit hk => wpAny_pyIter_enum he ?_
  have I2 : Inv X pins σ H1 { s1 with heap := h' } := I1.kept (t' := s1.toks) hk
  refine ⟨s1.heap.objs.size + 1, [s1.heap.objs.size + 1, s1.heap.objs.size], _, _, H1, rfl, I2, turn_enumT a (s1.heap.objs.size + 1) s1.heap.objs.size (Nat.ne_of_lt (Nat.lt_succ_of_lt hlt)) (Nat.ne_of_lt hlt), ⟨⟨.none, he⟩, hit, Nat.succ_ne_self _⟩, fun b hb => ?_, q⟩
  have hle : s1.heap.objs.size ≤ b := by
    rcases List.mem_cons.mp hb with rfl | hb
    · exact Nat.le_add_right _ _
    · cases List.mem_singleton.mp hb
      exact Nat.le_refl _
  exact I1.fpOk hle (I1.hok.fresh hle)
theorem walk_enumT {K : PySem.W.Frag} {a : Addr} {xs : List V} : Walk (IteT K a) xs.length (fun H => SqT K H a xs) (fun i H v H' => ∃ T x, v = .ref T ∧ H T = none ∧ H' = upd H T (.tup [.int (i : Nat), x]) ∧ xs[i]? = some x) :=
  ⟨fun i _ hi q => ⟨xs, xs[i], q, by simp [hi]⟩, fun _ q => ⟨xs, q, rfl⟩, fun i H x H' _ q y => let ⟨T, z, h1, h2, h3, h4⟩ := y; ⟨T, z, h1, h2, h3, h4 xs q⟩⟩
end Mo
set_option Elab.async false
set_option linter.all false
set_option maxRecDepth 100000
set_option maxHeartbeats 4000000
namespace Mo
open PySem
/-! ## repr tells plain data apart -/
abbrev cp (z : Str) : List Nat := z.cps.toList
theorem str_ext {x y : Str} (h : cp x = cp y) : x = y := by
  obtain ⟨a⟩ := x
  obtain ⟨b⟩ := y
  have : a = b := by
    have h2 : a.toList = b.toList := h
    rw [← Array.toArray_toList (xs := a), h2]
  rw [this]
/-- a plain sign: from the space to the tilde, no quote and no backslash -/
def Aln (c : Nat) : Bool := (decide (32 ≤ c) && decide (c ≤ 126)) && (decide (c ≠ 39) && decide (c ≠ 92))
def AlnT (z : Str) : Prop := ∀ c ∈ cp z, Aln c = true
theorem aln_lt {c : Nat} (h : Aln c = true) : c < 128 := by
  unfold Aln at h
  simp only [Bool.and_eq_true, decide_eq_true_eq] at h
  omega
theorem aln_char {c : Nat} (h : Aln c = true) : Builtin.Str.reprChar 39 c = [c] := by
  have all : (List.range 128).all (fun c => !Aln c || decide (Builtin.Str.reprChar 39 c = [c])) = true := by decide +kernel
  have := List.all_eq_true.mp all c (List.mem_range.mpr (aln_lt h))
  rw [h] at this
  simpa using this
theorem fold_aln (q : Nat) (hq : q = 39) : ∀ (l : List Nat) (acc : Array Nat), (∀ c ∈ l, Aln c = true) → (l.foldl (fun out c => out ++ (Builtin.Str.reprChar q c).toArray) acc).toList = acc.toList ++ l
  | [], acc, _ => by simp
  | c :: r, acc, h => by
    subst hq
    rw [List.foldl_cons, fold_aln 39 rfl r _ (fun d hd => h d (List.mem_cons_of_mem _ hd)), aln_char (h c List.mem_cons_self)]
    simp
theorem quote_aln {z : Str} (h : AlnT z) : reprQuote z = 39 := by
  unfold reprQuote
  have hn : z.cps.contains 39 = false := by
    rw [← Bool.not_eq_true, Array.contains_iff_mem]
    intro hm
    have := h 39 (by simpa using hm)
    exact absurd this (by decide)
  rw [hn]
  rfl
theorem repr_aln {z : Str} (h : AlnT z) : cp (reprText z) = 39 :: (cp z ++ [39]) := by
  unfold cp reprText
  rw [quote_aln h, ← Array.foldl_toList]
  simp only [Array.toList_push]
  rw [fold_aln 39 rfl _ _ h]
  simp
theorem cp_join2 (x y : Str) (r : List Str) : cp (Str.join ", " (x :: y :: r)) = cp x ++ ([44, 32] ++ cp (Str.join ", " (y :: r))) := by
  show cp (x ++ ", " ++ Str.join ", " (y :: r)) = _
  show (x ++ ", " ++ Str.join ", " (y :: r)).cps.toList = _
  rw [cps_app, cps_app, List.append_assoc]
  rfl
/-! plain data: nothing, numbers from 0 on, texts of letters and figures, tuples and lists of these -/
mutual
def Pl : PyData → Prop
  | .none => True
  | .int i => 0 ≤ i ∧ i.natAbs.log2 < 1920
  | .str z => AlnT z
  | .tuple ds => PlAll ds
  | .list ds => PlAll ds
  | .bool _ => False
  | .dict _ => False
def PlAll : List PyData → Prop
  | [] => True
  | d :: ds => Pl d ∧ PlAll ds
end
def isFig (c : Nat) : Bool := decide (48 ≤ c) && decide (c ≤ 57)
/-- what stands behind a datum: nothing, or something that does not begin with a figure -/
def Beh (r : List Nat) : Prop := ∀ c t, r = c :: t → isFig c = false
theorem beh_cons {c : Nat} {t : List Nat} (h : isFig c = false) : Beh (c :: t) := by
  intro d u e
  injection e with e1 _
  rw [← e1]
  exact h
theorem figs_part : ∀ (l m r s : List Nat), (∀ c ∈ l, isFig c = true) → (∀ c ∈ m, isFig c = true) → Beh r → Beh s → l ++ r = m ++ s → l = m ∧ r = s
  | [], [], _, _, _, _, _, _, e => ⟨rfl, e⟩
  | [], c :: m, r, s, _, hm, hr, _, e => by
    have := hr c (m ++ s) e
    rw [hm c List.mem_cons_self] at this
    cases this
  | c :: l, [], r, s, hl, _, _, hs, e => by
    have := hs c (l ++ r) e.symm
    rw [hl c List.mem_cons_self] at this
    cases this
  | c :: l, d :: m, r, s, hl, hm, hr, hs, e => by
    injection e with e1 e2
    obtain ⟨h1, h2⟩ := figs_part l m r s (fun x hx => hl x (List.mem_cons_of_mem _ hx)) (fun x hx => hm x (List.mem_cons_of_mem _ hx)) hr hs e2
    exact ⟨by rw [e1, h1], h2⟩
theorem aln_part : ∀ (l m r s : List Nat), (∀ c ∈ l, Aln c = true) → (∀ c ∈ m, Aln c = true) → l ++ 39 :: r = m ++ 39 :: s → l = m ∧ r = s
  | [], [], _, _, _, _, e => ⟨rfl, by injection e⟩
  | [], c :: m, r, s, _, hm, e => by
    injection e with e1 _
    have := hm c List.mem_cons_self
    rw [← e1] at this
    exact absurd this (by decide)
  | c :: l, [], r, s, hl, _, e => by
    injection e with e1 _
    have := hl c List.mem_cons_self
    rw [e1] at this
    exact absurd this (by decide)
  | c :: l, d :: m, r, s, hl, hm, e => by
    injection e with e1 e2
    obtain ⟨h1, h2⟩ := aln_part l m r s (fun x hx => hl x (List.mem_cons_of_mem _ hx)) (fun x hx => hm x (List.mem_cons_of_mem _ hx)) e2
    exact ⟨by rw [e1, h1], h2⟩
theorem num_cp (n : Nat) : cp (Str.ofString (toString (n : Int))) = (Nat.toDigits 10 n).map Char.toNat := PySem.W.KIN.signs_num n
theorem num_figs (n : Nat) : ∀ c ∈ cp (Str.ofString (toString (n : Int))), isFig c = true := by
  intro c hc
  rw [num_cp] at hc
  obtain ⟨d, hd, rfl⟩ := List.mem_map.mp hc
  have := Nat.isDigit_of_mem_toDigits (by decide) (by decide) hd
  unfold Char.isDigit at this
  simp only [Bool.and_eq_true, decide_eq_true_eq] at this
  unfold isFig
  rw [Bool.and_eq_true, decide_eq_true_eq, decide_eq_true_eq]
  exact ⟨UInt32.le_iff_toNat_le.mp this.1, UInt32.le_iff_toNat_le.mp this.2⟩
theorem num_ne (n : Nat) : ∃ c t, cp (Str.ofString (toString (n : Int))) = c :: t := by
  cases e : cp (Str.ofString (toString (n : Int))) with
  | nil =>
    rw [num_cp] at e
    have := List.map_eq_nil_iff.mp e
    exact absurd this Nat.toDigits_ne_nil
  | cons c t => exact ⟨c, t, rfl⟩
theorem num_inj {n m : Nat} (h : cp (Str.ofString (toString (n : Int))) = cp (Str.ofString (toString (m : Int)))) : n = m := by
  rw [num_cp, num_cp] at h
  rw [← PySem.W.KIN.val_back n, ← PySem.W.KIN.val_back m, h]
theorem cp_int {i : Int} (h : 0 ≤ i) : ∃ n : Nat, i = (n : Int) ∧ cp (PyData.int i).shown = cp (Str.ofString (toString (n : Int))) := by
  obtain ⟨n, rfl⟩ := Int.eq_ofNat_of_zero_le h
  exact ⟨n, rfl, rfl⟩
/-- the items with what closes them -/
def its (cl : List Nat) : List PyData → List Nat
  | [] => cl
  | [d] => cp d.shown ++ cl
  | d :: e :: ds => cp d.shown ++ ([44, 32] ++ its cl (e :: ds))
theorem its_join (cl : List Nat) : ∀ ds : List PyData, its cl ds = cp (Str.join ", " (PyData.shownAll ds)) ++ cl
  | [] => rfl
  | [d] => rfl
  | d :: e :: ds => by
    have ih := its_join cl (e :: ds)
    show cp d.shown ++ ([44, 32] ++ its cl (e :: ds)) = cp (Str.join ", " (d.shown :: e.shown :: PyData.shownAll ds)) ++ cl
    rw [ih, cp_join2]
    simp [PyData.shownAll]
theorem cp_list (ds : List PyData) : cp (PyData.list ds).shown = 91 :: its [93] ds := by
  have e : (PyData.list ds).shown = listText (PyData.shownAll ds) := by rw [PyData.shown]
  rw [e, listText_eq_join, its_join]
  show (("[" : Str) ++ Str.join ", " (PyData.shownAll ds) ++ "]").cps.toList = _
  rw [cps_app, cps_app]
  rfl
theorem shownAll_len : ∀ ds : List PyData, (PyData.shownAll ds).length = ds.length
  | [] => rfl
  | d :: ds => by
    show (PyData.shownAll ds).length + 1 = _
    rw [shownAll_len ds]
    rfl
def tcl (ds : List PyData) : List Nat := if ds.length = 1 then [44, 41] else [41]
theorem cp_tup (ds : List PyData) : cp (PyData.tuple ds).shown = 40 :: its (tcl ds) ds := by
  have e : (PyData.tuple ds).shown = tupleText (PyData.shownAll ds) := by rw [PyData.shown]
  rw [e, its_join]
  show (("(" : Str) ++ Str.join ", " (PyData.shownAll ds) ++ ((if (PyData.shownAll ds).length == 1 then ",)" else ")" : String) : Str)).cps.toList = _
  rw [cps_app, cps_app, shownAll_len]
  unfold tcl
  by_cases h : ds.length = 1
  · rw [if_pos h]
    simp only [h]
    rfl
  · rw [if_neg h]
    have : (ds.length == 1) = false := by simpa using h
    rw [this]
    rfl
theorem cp_none : cp PyData.none.shown = [78, 111, 110, 101] := by decide +kernel
/-- the first sign of a datum -/
theorem first_sign : ∀ {d : PyData}, Pl d → ∃ c t, cp d.shown = c :: t ∧ (match d with | .none => c = 78 | .int _ => isFig c = true | .str _ => c = 39 | .tuple _ => c = 40 | .list _ => c = 91 | _ => False)
  | .none, _ => ⟨78, _, cp_none, rfl⟩
  | .int i, h => by
    obtain ⟨n, rfl, e⟩ := cp_int h.1
    obtain ⟨c, t, e2⟩ := num_ne n
    exact ⟨c, t, e.trans e2, num_figs n c (by rw [e2]; exact List.mem_cons_self)⟩
  | .str z, h => ⟨39, _, (congrArg cp (PyData.shown_str z)).trans (repr_aln h), rfl⟩
  | .tuple ds, _ => ⟨40, _, cp_tup ds, rfl⟩
  | .list ds, _ => ⟨91, _, cp_list ds, rfl⟩
theorem same_first {d e : PyData} {r s : List Nat} (hd : Pl d) (he : Pl e) (h : cp d.shown ++ r = cp e.shown ++ s) :
    (d = .none ∧ e = .none) ∨ (∃ i j, d = .int i ∧ e = .int j) ∨ (∃ x y, d = .str x ∧ e = .str y) ∨ (∃ x y, d = .tuple x ∧ e = .tuple y) ∨ (∃ x y, d = .list x ∧ e = .list y) := by
  obtain ⟨c, t, h1, h2⟩ := first_sign hd
  obtain ⟨c', t', h3, h4⟩ := first_sign he
  rw [h1, h3] at h
  injection h with hc _
  subst hc
  cases d <;> cases e <;> simp only at h2 h4 <;> first
    | exact h2.elim
    | exact h4.elim
    | exact .inl ⟨rfl, rfl⟩
    | exact .inr (.inl ⟨_, _, rfl, rfl⟩)
    | exact .inr (.inr (.inl ⟨_, _, rfl, rfl⟩))
    | exact .inr (.inr (.inr (.inl ⟨_, _, rfl, rfl⟩)))
    | exact .inr (.inr (.inr (.inr ⟨_, _, rfl, rfl⟩)))
    | (exfalso; subst h2; exact absurd h4 (by decide))
    | (exfalso; subst h4; exact absurd h2 (by decide))
/-- what may close items -/
def Clo (cl : List Nat) : Prop := cl = [93] ∨ cl = [41] ∨ cl = [44, 41]
theorem clo_tup (ds : List PyData) : Clo (tcl ds) := by
  unfold tcl
  split
  · exact .inr (.inr rfl)
  · exact .inr (.inl rfl)
/-- the items behind the first one -/
def tls (cl : List Nat) : List PyData → List Nat
  | [] => cl
  | d :: ds => [44, 32] ++ (cp d.shown ++ tls cl ds)
theorem its_tls (cl : List Nat) : ∀ (d : PyData) (ds : List PyData), its cl (d :: ds) = cp d.shown ++ tls cl ds
  | d, [] => rfl
  | d, e :: ds => by
    show cp d.shown ++ ([44, 32] ++ its cl (e :: ds)) = _
    rw [its_tls cl e ds]
    rfl
theorem beh_tls {cl : List Nat} (h : Clo cl) (r : List Nat) : ∀ ds : List PyData, Beh (tls cl ds ++ r)
  | [] => by rcases h with rfl | rfl | rfl <;> exact beh_cons rfl
  | d :: ds => beh_cons rfl
theorem its_first {cl : List Nat} (h : cl = [93] ∨ cl = [41]) {e : PyData} {r s : List Nat} (he : Pl e) : cl ++ r = cp e.shown ++ s → False := by
  obtain ⟨c, t, h1, h2⟩ := first_sign he
  rw [h1]
  intro h3
  rcases h with rfl | rfl
  · injection h3 with h4 _
    subst h4
    cases e <;> simp only at h2 <;> first | exact absurd h2 (by decide) | exact h2
  · injection h3 with h4 _
    subst h4
    cases e <;> simp only at h2 <;> first | exact absurd h2 (by decide) | exact h2
def PartD (n : Nat) : Prop := ∀ (d e : PyData) (r s : List Nat), sizeOf d ≤ n → Pl d → Pl e → Beh r → Beh s → cp d.shown ++ r = cp e.shown ++ s → d = e ∧ r = s
def PartL (n : Nat) : Prop := ∀ (ds es : List PyData) (c1 c2 r s : List Nat), sizeOf ds ≤ n → Clo c1 → Clo c2 → PlAll ds → PlAll es → tls c1 ds ++ r = tls c2 es ++ s → ds = es ∧ c1 ++ r = c2 ++ s
theorem part_items {n : Nat} (hD : PartD n) (hL : PartL n) {x y : List PyData} {c1 c2 r s : List Nat} (hx : sizeOf x ≤ n) (k1 : Clo c1) (k2 : Clo c2) (e1 : x = [] → c1 = [93] ∨ c1 = [41]) (e2 : y = [] → c2 = [93] ∨ c2 = [41])
    (hd : PlAll x) (he : PlAll y) (h : its c1 x ++ r = its c2 y ++ s) : x = y ∧ c1 ++ r = c2 ++ s := by
  cases x with
  | nil =>
    cases y with
    | nil => exact ⟨rfl, h⟩
    | cons e es =>
      rw [its_tls, List.append_assoc] at h
      exact (its_first (e1 rfl) he.1 h).elim
  | cons d ds =>
    cases y with
    | nil =>
      rw [its_tls, List.append_assoc] at h
      exact (its_first (e2 rfl) hd.1 h.symm).elim
    | cons e es =>
      rw [its_tls, its_tls, List.append_assoc, List.append_assoc] at h
      have hs : sizeOf (d :: ds) = 1 + sizeOf d + sizeOf ds := rfl
      obtain ⟨h1, h2⟩ := hD d e _ _ (by omega) hd.1 he.1 (beh_tls k1 r ds) (beh_tls k2 s es) h
      obtain ⟨h3, h4⟩ := hL ds es _ _ r s (by omega) k1 k2 hd.2 he.2 h2
      exact ⟨by rw [h1, h3], h4⟩
theorem part_all : ∀ n, PartD n ∧ PartL n
  | 0 => by
    constructor
    · intro d e r s hz
      exfalso
      cases d <;> (simp at hz)
    · intro ds es c1 c2 r s hz
      exfalso
      cases ds <;> (simp at hz)
  | n + 1 => by
    obtain ⟨hD, hL⟩ := part_all n
    constructor
    · intro d e r s hz hd he hr hs h
      rcases same_first hd he h with ⟨rfl, rfl⟩ | ⟨i, j, rfl, rfl⟩ | ⟨x, y, rfl, rfl⟩ | ⟨x, y, rfl, rfl⟩ | ⟨x, y, rfl, rfl⟩
      · exact ⟨rfl, List.append_cancel_left h⟩
      · obtain ⟨n, rfl, e1⟩ := cp_int hd.1
        obtain ⟨m, rfl, e2⟩ := cp_int he.1
        rw [e1, e2] at h
        obtain ⟨h1, h2⟩ := figs_part _ _ r s (num_figs n) (num_figs m) hr hs h
        exact ⟨by rw [num_inj h1], h2⟩
      · rw [PyData.shown_str, PyData.shown_str, repr_aln hd, repr_aln he] at h
        have h : cp x ++ [39] ++ r = cp y ++ [39] ++ s := by injection h
        rw [List.append_assoc, List.append_assoc] at h
        obtain ⟨h1, h2⟩ := aln_part _ _ r s hd he h
        exact ⟨by rw [str_ext h1], h2⟩
      · rw [cp_tup, cp_tup] at h
        have h : its (tcl x) x ++ r = its (tcl y) y ++ s := by injection h
        have hs : sizeOf (PyData.tuple x) = 1 + sizeOf x := PyData.tuple.sizeOf_spec x
        obtain ⟨h1, h2⟩ := part_items hD hL (by omega) (clo_tup _) (clo_tup _) (fun e => .inr (by rw [e]; rfl)) (fun e => .inr (by rw [e]; rfl)) hd he h
        subst h1
        exact ⟨rfl, List.append_cancel_left h2⟩
      · rw [cp_list, cp_list] at h
        have h : its [93] x ++ r = its [93] y ++ s := by injection h
        have hs : sizeOf (PyData.list x) = 1 + sizeOf x := PyData.list.sizeOf_spec x
        obtain ⟨h1, h2⟩ := part_items hD hL (by omega) (.inl rfl) (.inl rfl) (fun _ => .inl rfl) (fun _ => .inl rfl) hd he h
        subst h1
        exact ⟨rfl, List.append_cancel_left h2⟩
    · intro ds es c1 c2 r s hz k1 k2 hd he h
      cases ds with
      | nil =>
        cases es with
        | nil => exact ⟨rfl, h⟩
        | cons e es =>
          exfalso
          rcases k1 with rfl | rfl | rfl
          · injection h with h1 _
            exact absurd h1 (by decide)
          · injection h with h1 _
            exact absurd h1 (by decide)
          · injection h with _ h2
            injection h2 with h3 _
            exact absurd h3 (by decide)
      | cons d ds =>
        cases es with
        | nil =>
          exfalso
          rcases k2 with rfl | rfl | rfl
          · injection h with h1 _
            exact absurd h1 (by decide)
          · injection h with h1 _
            exact absurd h1 (by decide)
          · injection h with _ h2
            injection h2 with h3 _
            exact absurd h3 (by decide)
        | cons e es =>
          have h : cp d.shown ++ (tls c1 ds ++ r) = cp e.shown ++ (tls c2 es ++ s) := by
            rw [← List.append_assoc, ← List.append_assoc]
            injection h with _ h2
            injection h2
          have hs : sizeOf (d :: ds) = 1 + sizeOf d + sizeOf ds := rfl
          obtain ⟨h1, h2⟩ := hD d e _ _ (by omega) hd.1 he.1 (beh_tls k1 r ds) (beh_tls k2 s es) h
          obtain ⟨h3, h4⟩ := hL ds es c1 c2 r s (by omega) k1 k2 hd.2 he.2 h2
          exact ⟨by rw [h1, h3], h4⟩
/-- equal reprs, equal data -/
theorem shown_inj {d e : PyData} (hd : Pl d) (he : Pl e) (h : d.shown = e.shown) : d = e := by
  refine ((part_all (sizeOf d)).1 d e [] [] (Nat.le_refl _) hd he (fun _ _ z => nomatch z) (fun _ _ z => nomatch z) ?_).1
  rw [h]
/-! ## == of plain data -/
theorem eqv_n : ∀ n : Nat, (∀ d e : PyData, sizeOf d ≤ n → Pl d → Pl e → PyData.eqv d e = true → d = e) ∧ (∀ ds es : List PyData, sizeOf ds ≤ n → PlAll ds → PlAll es → PyData.eqvAll ds es = true → ds = es)
  | 0 => by
    constructor
    · intro d e hz
      exfalso
      cases d <;> (simp at hz)
    · intro ds es hz
      exfalso
      cases ds <;> (simp at hz)
  | n + 1 => by
    obtain ⟨hD, hL⟩ := eqv_n n
    constructor
    · intro d e hz hd he h
      cases d with
      | none => cases e <;> first | rfl | (simp [PyData.eqv] at h)
      | bool b => exact hd.elim
      | dict kvs => exact hd.elim
      | int i =>
        cases e <;> first | exact he.elim | (simp [PyData.eqv] at h; try (rw [h]))
      | str x =>
        cases e <;> first | exact he.elim | (simp [PyData.eqv] at h; try (rw [h]))
      | tuple x =>
        cases e with
        | tuple y =>
          have hs : sizeOf (PyData.tuple x) = 1 + sizeOf x := PyData.tuple.sizeOf_spec x
          rw [hL x y (by omega) hd he (by simpa [PyData.eqv] using h)]
        | dict kvs => exact he.elim
        | bool b => exact he.elim
        | _ => simp [PyData.eqv] at h
      | list x =>
        cases e with
        | list y =>
          have hs : sizeOf (PyData.list x) = 1 + sizeOf x := PyData.list.sizeOf_spec x
          rw [hL x y (by omega) hd he (by simpa [PyData.eqv] using h)]
        | dict kvs => exact he.elim
        | bool b => exact he.elim
        | _ => simp [PyData.eqv] at h
    · intro ds es hz hd he h
      cases ds with
      | nil => cases es with
        | nil => rfl
        | cons e es => simp [PyData.eqvAll] at h
      | cons d ds => cases es with
        | nil => simp [PyData.eqvAll] at h
        | cons e es =>
          have hs : sizeOf (d :: ds) = 1 + sizeOf d + sizeOf ds := rfl
          simp only [PyData.eqvAll, Bool.and_eq_true] at h
          rw [hD d e (by omega) hd.1 he.1 h.1, hL ds es (by omega) hd.2 he.2 h.2]
theorem eqv_plain {d e : PyData} (hd : Pl d) (he : Pl e) (h : PyData.eqv d e = true) : d = e := (eqv_n (sizeOf d)).1 d e (Nat.le_refl _) hd he h
theorem lay_n : ∀ n : Nat, (∀ d : PyData, sizeOf d ≤ n → Pl d → d.canLay0 = true) ∧ (∀ ds : List PyData, sizeOf ds ≤ n → PlAll ds → PyData.canLayAll0 ds = true)
  | 0 => by
    constructor
    · intro d hz
      exfalso
      cases d <;> (simp at hz)
    · intro ds hz
      exfalso
      cases ds <;> (simp at hz)
  | n + 1 => by
    obtain ⟨hD, hL⟩ := lay_n n
    constructor
    · intro d hz hd
      cases d with
      | none => rfl
      | bool b => rfl
      | dict kvs => exact hd.elim
      | int i => rfl
      | str x =>
        have : Asc x := fun c hc => aln_lt (hd c hc)
        exact this.ok
      | tuple x =>
        have hs : sizeOf (PyData.tuple x) = 1 + sizeOf x := PyData.tuple.sizeOf_spec x
        exact hL x (by omega) hd
      | list x =>
        have hs : sizeOf (PyData.list x) = 1 + sizeOf x := PyData.list.sizeOf_spec x
        exact hL x (by omega) hd
    · intro ds hz hd
      cases ds with
      | nil => rfl
      | cons d ds =>
        have hs : sizeOf (d :: ds) = 1 + sizeOf d + sizeOf ds := rfl
        show (d.canLay0 && PyData.canLayAll0 ds) = true
        rw [hD d (by omega) hd.1, hL ds (by omega) hd.2]
        rfl
theorem lay_plain {d : PyData} (hd : Pl d) : d.canLay0 = true := (lay_n (sizeOf d)).1 d (Nat.le_refl _) hd
theorem lay_plainAll {ds : List PyData} (hd : PlAll ds) : PyData.canLayAll0 ds = true := (lay_n (sizeOf ds)).2 ds (Nat.le_refl _) hd
theorem eqv_refl_plain {d : PyData} (hd : Pl d) : PyData.eqv d d = true := SeqAt.eqv_refl d (lay_plain hd)
/-- two reprs are equal exactly if the data are -/
theorem alike_plain {d e : PyData} (hd : Pl d) (he : Pl e) : decide (d.shown = e.shown) = PyData.eqv d e := by
  by_cases h : d = e
  · subst h
    rw [eqv_refl_plain hd]
    simp
  · have h1 : ¬ d.shown = e.shown := fun z => h (shown_inj hd he z)
    have h2 : PyData.eqv d e = false := by
      cases z : PyData.eqv d e with
      | false => rfl
      | true => exact absurd (eqv_plain hd he z) h
    rw [h2, decide_eq_false h1]
theorem show_n : ∀ n : Nat, (∀ d : PyData, sizeOf d ≤ n → Pl d → d.showable = true ∧ d.hasDict = false) ∧ (∀ ds : List PyData, sizeOf ds ≤ n → PlAll ds → PyData.showableAll ds = true ∧ PyData.hasDictAll ds = false)
  | 0 => by
    constructor
    · intro d hz
      exfalso
      cases d <;> (simp at hz)
    · intro ds hz
      exfalso
      cases ds <;> (simp at hz)
  | n + 1 => by
    obtain ⟨hD, hL⟩ := show_n n
    constructor
    · intro d hz hd
      cases d with
      | none => exact ⟨rfl, rfl⟩
      | bool b => exact ⟨rfl, rfl⟩
      | dict kvs => exact hd.elim
      | int i => exact ⟨decide_eq_true hd.2, rfl⟩
      | str x => exact ⟨rfl, rfl⟩
      | tuple x =>
        have hs : sizeOf (PyData.tuple x) = 1 + sizeOf x := PyData.tuple.sizeOf_spec x
        exact hL x (by omega) hd
      | list x =>
        have hs : sizeOf (PyData.list x) = 1 + sizeOf x := PyData.list.sizeOf_spec x
        exact hL x (by omega) hd
    · intro ds hz hd
      cases ds with
      | nil => exact ⟨rfl, rfl⟩
      | cons d ds =>
        have hs : sizeOf (d :: ds) = 1 + sizeOf d + sizeOf ds := rfl
        obtain ⟨a1, a2⟩ := hD d (by omega) hd.1
        obtain ⟨b1, b2⟩ := hL ds (by omega) hd.2
        constructor
        · show (d.showable && PyData.showableAll ds) = true
          rw [a1, b1]
          rfl
        · show (d.hasDict || PyData.hasDictAll ds) = false
          rw [a2, b2]
          rfl
theorem show_plain {d : PyData} (hd : Pl d) : d.showable = true ∧ d.hasDict = false := (show_n (sizeOf d)).1 d (Nat.le_refl _) hd
/-! ## how long a repr is at most -/
mutual
def wt : PyData → Nat
  | .none => 4
  | .bool _ => 5
  | .int _ => 1921
  | .str z => z.length + 2
  | .tuple ds => wtAll ds + 3
  | .list ds => wtAll ds + 3
  | .dict _ => 0
def wtAll : List PyData → Nat
  | [] => 0
  | d :: ds => wt d + 2 + wtAll ds
end
theorem wtAll_cons (d : PyData) (ds : List PyData) : wtAll (d :: ds) = wt d + 2 + wtAll ds := by rw [wtAll]
theorem wt_tup (ds : List PyData) : wt (.tuple ds) = wtAll ds + 3 := by rw [wt]
theorem wt_lst (ds : List PyData) : wt (.list ds) = wtAll ds + 3 := by rw [wt]
theorem wt_n : ∀ n : Nat, (∀ d : PyData, sizeOf d ≤ n → Pl d → (cp d.shown).length ≤ wt d) ∧ (∀ (ds : List PyData) (cl : List Nat), sizeOf ds ≤ n → PlAll ds → (its cl ds).length ≤ wtAll ds + cl.length)
  | 0 => by
    constructor
    · intro d hz
      exfalso
      cases d <;> (simp at hz)
    · intro ds cl hz
      exfalso
      cases ds <;> (simp at hz)
  | n + 1 => by
    obtain ⟨hD, hL⟩ := wt_n n
    constructor
    · intro d hz hd
      cases d with
      | none =>
        rw [cp_none, wt]
        decide
      | bool b => exact hd.elim
      | dict kvs => exact hd.elim
      | int i =>
        rw [wt]
        show (Str.ofString (toString i)).cps.toList.length ≤ 1921
        have e := int_text_length_le (a := i) (k := 1920) (by decide) hd.2
        rw [← PySem.ofString_length] at e
        rw [Array.length_toList]
        exact e
      | str x =>
        rw [PyData.shown_str, repr_aln hd, wt]
        have : (cp x).length = x.length := Array.length_toList
        simp only [List.length_cons, List.length_append, List.length_nil]
        omega
      | tuple x =>
        have hs : sizeOf (PyData.tuple x) = 1 + sizeOf x := PyData.tuple.sizeOf_spec x
        rw [cp_tup, wt_tup, List.length_cons]
        have h := hL x (tcl x) (by omega) hd
        have h2 : (tcl x).length ≤ 2 := by
          unfold tcl
          split <;> decide
        omega
      | list x =>
        have hs : sizeOf (PyData.list x) = 1 + sizeOf x := PyData.list.sizeOf_spec x
        rw [cp_list, wt_lst, List.length_cons]
        have h := hL x [93] (by omega) hd
        have h2 : ([93] : List Nat).length = 1 := rfl
        omega
    · intro ds cl hz hd
      cases ds with
      | nil =>
        show cl.length ≤ wtAll [] + cl.length
        omega
      | cons d ds =>
        have hs : sizeOf (d :: ds) = 1 + sizeOf d + sizeOf ds := rfl
        have h1 := hD d (by omega) hd.1
        rw [wtAll_cons]
        cases ds with
        | nil =>
          show (cp d.shown ++ cl).length ≤ _
          rw [List.length_append]
          omega
        | cons e ds =>
          have h2 := hL (e :: ds) cl (by omega) hd.2
          show (cp d.shown ++ ([44, 32] ++ its cl (e :: ds))).length ≤ _
          rw [List.length_append, List.length_append]
          have h3 : ([44, 32] : List Nat).length = 2 := rfl
          omega
theorem shown_len {d : PyData} (hd : Pl d) : d.shown.length ≤ wt d := by
  have := (wt_n (sizeOf d)).1 d (Nat.le_refl _) hd
  rw [Array.length_toList] at this
  exact this
/-- a repr of plain data is a plain text -/
theorem shown_asc_n : ∀ n : Nat, (∀ d : PyData, sizeOf d ≤ n → Pl d → ∀ c ∈ cp d.shown, c < 128) ∧ (∀ (ds : List PyData) (cl : List Nat), sizeOf ds ≤ n → PlAll ds → (∀ c ∈ cl, c < 128) → ∀ c ∈ its cl ds, c < 128)
  | 0 => by
    constructor
    · intro d hz
      exfalso
      cases d <;> (simp at hz)
    · intro ds cl hz
      exfalso
      cases ds <;> (simp at hz)
  | n + 1 => by
    obtain ⟨hD, hL⟩ := shown_asc_n n
    constructor
    · intro d hz hd
      cases d with
      | none =>
        rw [cp_none]
        decide
      | bool b => exact hd.elim
      | dict kvs => exact hd.elim
      | int i => exact Asc.num i
      | str x =>
        rw [PyData.shown_str, repr_aln hd]
        intro c hc
        rcases List.mem_cons.mp hc with rfl | hc
        · decide
        · rcases List.mem_append.mp hc with hc | hc
          · exact aln_lt (hd c hc)
          · rw [List.mem_singleton.mp hc]
            decide
      | tuple x =>
        have hs : sizeOf (PyData.tuple x) = 1 + sizeOf x := PyData.tuple.sizeOf_spec x
        rw [cp_tup]
        intro c hc
        rcases List.mem_cons.mp hc with rfl | hc
        · decide
        · refine hL x (tcl x) (by omega) hd ?_ c hc
          unfold tcl
          split <;> decide
      | list x =>
        have hs : sizeOf (PyData.list x) = 1 + sizeOf x := PyData.list.sizeOf_spec x
        rw [cp_list]
        intro c hc
        rcases List.mem_cons.mp hc with rfl | hc
        · decide
        · exact hL x [93] (by omega) hd (by decide) c hc
    · intro ds cl hz hd hcl
      cases ds with
      | nil => exact hcl
      | cons d ds =>
        have hs : sizeOf (d :: ds) = 1 + sizeOf d + sizeOf ds := rfl
        have h1 := hD d (by omega) hd.1
        cases ds with
        | nil =>
          intro c hc
          rcases List.mem_append.mp (show c ∈ cp d.shown ++ cl from hc) with hc | hc
          · exact h1 c hc
          · exact hcl c hc
        | cons e ds =>
          have h2 := hL (e :: ds) cl (by omega) hd.2 hcl
          intro c hc
          rcases List.mem_append.mp (show c ∈ cp d.shown ++ ([44, 32] ++ its cl (e :: ds)) from hc) with hc | hc
          · exact h1 c hc
          · rcases List.mem_append.mp hc with hc | hc
            · have h3 : ∀ c ∈ ([44, 32] : List Nat), c < 128 := by decide
              exact h3 c hc
            · exact h2 c hc
theorem shown_asc {d : PyData} (hd : Pl d) : Asc d.shown := (shown_asc_n (sizeOf d)).1 d (Nat.le_refl _) hd
end Mo
set_option Elab.async false
set_option linter.all false
set_option maxRecDepth 100000
set_option maxHeartbeats 4000000
namespace Mo
open PySem PySem.Spec PyProof.Rows L2
/-! ## tuples whose object is known: their methods may be called -/
/-- a tuple at p, its object without a dict -/
def TX (H : Hp) (p : Addr) (xs : List V) : Prop := ∃ ob : Obj, ob.dict = none ∧ H p = some (.frz ob (.tup xs))
theorem TX.same {H H' : Hp} {p : Addr} {xs : List V} (h : TX H p xs) (e : Same H H') : TX H' p xs := let ⟨ob, d, h⟩ := h; ⟨ob, d, e _ _ h⟩
theorem TX.sq {K : PySem.W.Frag} {H : Hp} {p : Addr} {xs : List V} (h : TX H p xs) : SqT K H p xs := let ⟨ob, _, h⟩ := h; .inl (.inr ⟨ob, h⟩)
theorem TX.ty {K : PySem.W.Frag} {H : Hp} {p : Addr} {xs : List V} (h : TX H p xs) : TyX K H (.ref p) (.type Ty7.tup.nm) := let ⟨_, _, h⟩ := h; .fTuple h
theorem TX.at {H : Hp} {p : Addr} {xs : List V} (h : TX H p xs) : ∃ o, H p = some o := let ⟨_, _, h⟩ := h; ⟨_, h⟩
theorem TX.keep {H H' : Hp} {a p : Addr} {xs : List V} (h : TX H p xs) (n : p ≠ a) (e : KeepBut a H H') : TX H' p xs := let ⟨ob, d, h⟩ := h; ⟨ob, d, e _ _ n h⟩
section
variable {X : Cx}
theorem laidX {pins : List (Addr × Obj)} {σ : L2.St} {H : Hp} {s : Shared} {xs : List V} {its : List Value} {t' : Nat} (I : Inv X pins σ H s) (hz : xs.length ≤ sizeLine) (r : Vals xs its) :
    Inv X pins σ (upd H s.heap.objs.size (.frz { cls := .type "tuple", data := .seq its.toArray } (.tup xs))) { s with heap := s.heap.push { cls := .type "tuple", data := .seq its.toArray }, toks := t' } :=
  I.laid (t' := t') (fun b ob q => Heap.get?_push_of_some _ q) (Nat.le_refl _) ⟨Heap.get?_push_size _ rfl, hz, its, r, IsTup.new _ _⟩
/-- what is asked of a new tuple -/
abbrev newX (H : Hp) (xs : List V) (Q : VK) : Prop := ∀ (p : Addr) (ob : Obj), ob.dict = none → H p = none → Q (.ref p) (upd H p (.frz ob (.tup xs)))
def tTupX (t : TA) : TE := fun σ H Q => t σ H fun xs H1 => xs.length ≤ sizeLine ∧ newX H1 xs Q
theorem pe_tupX {es : List Expr} {t : TA} {x1} {pos : Pos} (h : PA X es t) : PE X (.Tuple es x1 pos) (tTupX t) := by
  refine ⟨fun pins s σ H Q I hq => ?_⟩
  refine wpAny_Tuple_spliced (thn (h.run pos pins s σ H _ I hq) fun us s1 ⟨xs, H1, I1, r, z, q⟩ => ⟨by rw [← r.length]; exact z, ?_⟩)
  exact ⟨.ref s1.heap.objs.size, _, laidX (t' := s1.toks) I1 z r, rfl, q _ _ rfl (I1.hok.fresh (Nat.le_refl _))⟩
theorem call_tuple_ofX : CallR X (.type "tuple") (fun xs H Q => ∃ p ys, xs = [.ref p] ∧ SqL X.K H p ys ∧ newX H ys Q) := by
  intro pins s σ H xs us Q I r h
  obtain ⟨p, ys, rfl, hq, q⟩ := h
  obtain ⟨u, rfl, rx⟩ := vals1 r
  cases rx
  obtain ⟨its, r', pl, hz⟩ := I.list hq
  have hlen := r'.length
  refine call_tuple_list pl.isList (fun h' kp => ?_) (by simp only [List.size_toArray] <;> omega)
  have I1 : Inv X pins σ H { s with heap := h' } := I.kept (t' := s.toks) kp
  exact ⟨.ref h'.objs.size, _, laidX (t' := s.toks) I1 hz r', rfl, q _ _ rfl (I1.hok.fresh (Nat.le_refl _))⟩
def rCatX (K : PySem.W.Frag) : R2 := fun x y H Q => ∃ a b xs ys, x = .ref a ∧ y = .ref b ∧ SqT K H a xs ∧ SqT K H b ys ∧ xs.length + ys.length ≤ sizeLine ∧
  (xs = [] → Q (.ref b) H) ∧ (ys = [] → Q (.ref a) H) ∧ newX H (xs ++ ys) Q
theorem op_catX : OpR X (binaryOp .Add) (rCatX X.K) := by
  intro pins s σ H x y v u Q I rx ry h
  obtain ⟨a, b, xs, ys, rfl, rfl, ha, hb, hz, q0, q1, q2⟩ := h
  cases rx
  cases ry
  obtain ⟨its, r1, p1, _⟩ := I.tuple ha
  obtain ⟨its2, r2, p2, _⟩ := I.tuple hb
  by_cases hx : xs = []
  · subst hx
    cases r1
    exact cat_tup0 p1 p2 ⟨.ref b, H, I, rfl, q0 rfl⟩
  · refine HT.cat_tup p1 p2 (fun z => hx (r1.nil_iff.mp z)) (fun z => ⟨.ref a, H, I, rfl, q1 (r2.nil_iff.mp z)⟩) (fun z => ?_) (by rw [← r1.length, ← r2.length]; exact hz)
    exact ⟨.ref s.heap.objs.size, _, laidX (t' := s.toks) I (by rw [List.length_append]; exact hz) (r1.append r2), rfl, q2 _ _ rfl (I.hok.fresh (Nat.le_refl _))⟩
def rSlX1 (K : PySem.W.Frag) : V → Option Int → Option Int → Hp → VK → Prop := fun x lo hi H Q => ∃ a xs, x = .ref a ∧ SqT K H a xs ∧
  (cutV xs lo hi = xs → Q (.ref a) H) ∧ newX H (cutV xs lo hi) Q
theorem cut_whole {xs : List V} {lo hi : Option Int} (h : HT.sIx xs.length 0 lo = 0 ∧ HT.sIx xs.length xs.length hi = xs.length) : cutV xs lo hi = xs := by
  unfold cutV
  rw [h.1, h.2]
  simp
theorem sl_tupX : SlR X (rSlX1 X.K) := by
  intro pins s σ H x v vl vu lo hi sl Q I rx hs pl pu h
  obtain ⟨a, xs, rfl, hx, q1, q2⟩ := h
  cases rx
  obtain ⟨its, r, ht, hz⟩ := I.tuple hx
  have hlen : its.toArray.size = xs.length := by rw [List.size_toArray]; exact r.length.symm
  refine ⟨"tuple", _, PyProof.Rows.slot_tuple_getitem.lookup, ht.typeIs, ?_⟩
  by_cases hw : HT.sIx xs.length 0 lo = 0 ∧ HT.sIx xs.length xs.length hi = xs.length
  · exact getItem_tuple_whole ht hs pl pu (by rw [hlen]; exact hw) ⟨.ref a, H, I, rfl, q1 (cut_whole hw)⟩
  · refine HT.getItem_tuple_cut ht hs pl pu (by rw [hlen]; exact hw) ?_ (by rw [hlen]; exact hz)
    rw [hlen]
    exact ⟨.ref s.heap.objs.size, _, laidX (t' := s.toks) I (Nat.le_trans (cutV_length xs lo hi) hz) ((r.drop (HT.sIx xs.length 0 lo)).take (HT.sIx xs.length xs.length hi - HT.sIx xs.length 0 lo)), rfl, q2 _ _ rfl (I.hok.fresh (Nat.le_refl _))⟩
/-- t.m(..) of such a tuple -/
def tBX (r : V → List V → Hp → VK → Prop) (to : TE) (t : TA) : TE := fun σ H Q => to σ H fun x H1 => (∃ p ys, x = .ref p ∧ TX H1 p ys) ∧ t σ H1 fun xs H2 => r x xs H2 Q
theorem pe_bmX {o e : Expr} {es : List Expr} {to : TE} {t : TA} {name : Str} {apos cpos : Pos} {id : String} {r : V → List V → Hp → VK → Prop} (slot : Slot "tuple" name id) (hty : typeOf (.builtin id) = pure (.type "method_descriptor")) (hm : MtR X id r) (ho : PE X o to) (ha : PA X (e :: es) t)
    (hbase : attributeBase o name X.env (eval o X.env) = eval o X.env := by rfl)
    (hfew : ((backTo cpos (starEach (e :: es) X.env)).all (fun x => !x.1) && (backToKw cpos (keywordEach [] X.env)).all (fun x => x.1.isSome)
      && decide ((e :: es).length + ([] : List Keyword).length + (if ([] : List Keyword).isEmpty then 0 else 1) < 30)) = true := by rfl)
    (hline : (apos.endLine == cpos.line) = true := by rfl) (hs : starEach (e :: es) X.env = (false, eval e X.env) :: starEach es X.env := by rfl) (hplain : (backTo cpos (starEach es X.env)).any (·.1) = false := by rfl) :
    PE X (.Call (.Attribute o name apos) (e :: es) [] cpos) (tBX r to t) := by
  refine ⟨fun pins s σ H Q I h => ?_⟩
  refine wpAny_Call_method_late hbase hfew hline rfl (thn (ho.run pins s σ H _ I h) fun v s1 ⟨x, H1, I1, r1, ty, q1⟩ => ?_)
  obtain ⟨p, ys, rfl, ob, hd, hp⟩ := ty
  obtain ⟨g1, _, _, _, o2, g2, hc, _⟩ := (show ObjOk X.prog X.w H1 s1.heap p (.frz ob (.tup ys)) from I1.hok p _ hp)
  cases (show v = Value.ref p from r1)
  have e2 : o2 = ob := by
    rw [g1] at g2
    exact (Option.some.inj g2).symm
  subst e2
  refine ⟨"tuple", id, PySem.F.plainAttrs_tuple, slot, hty, ⟨_, g1, hc⟩, fun a e => by cases e; exact ⟨_, g1, hd⟩, ?_⟩
  have hA := ha.run cpos pins s1 σ H1 _ I1 q1
  rw [hs] at hA ⊢
  refine Calls.callWith_builtin (by show (false || (backTo cpos (starEach es X.env)).any (·.1)) = false; rw [hplain] <;> rfl) (Calls.evalArgs_plain ?_)
  exact thn hA fun us s2 ⟨vs, H2, I2, r2, q2⟩ => hm pins s2 σ H2 (.ref p) vs (.ref p) us Q I2 r1 r2 q2
end
end Mo
set_option Elab.async false
set_option linter.all false
set_option maxRecDepth 100000
set_option maxHeartbeats 4000000
namespace K25
open PySem PySem.Spec PyProof.Rows L2 Mo
def topS (i : Nat) : Stmt := PySem.Challenge.pw_momentcalls_k25_runs_made.main.body.getD i (.Pass ⟨0, 0, 0, 0⟩)
abbrev st_is_name : Stmt := topS 11
abbrev nm_is_name : List Str := ["value", "sign"]
theorem sc_is_name : FnScope nm_is_name ["value"] (defScope st_is_name) := ⟨rfl, rfl, rfl, by decide +kernel, rfl, by decide +kernel, by decide +kernel⟩
abbrev st_is_integer : Stmt := topS 12
abbrev nm_is_integer : List Str := ["value"]
theorem sc_is_integer : FnScope nm_is_integer ["value"] (defScope st_is_integer) := ⟨rfl, rfl, rfl, by decide +kernel, rfl, by decide +kernel, by decide +kernel⟩
abbrev st_is_mark : Stmt := topS 13
abbrev nm_is_mark : List Str := ["value"]
theorem sc_is_mark : FnScope nm_is_mark ["value"] (defScope st_is_mark) := ⟨rfl, rfl, rfl, by decide +kernel, rfl, by decide +kernel, by decide +kernel⟩
abbrev st_is_value : Stmt := topS 14
abbrev nm_is_value : List Str := ["value"]
theorem sc_is_value : FnScope nm_is_value ["value"] (defScope st_is_value) := ⟨rfl, rfl, rfl, by decide +kernel, rfl, by decide +kernel, by decide +kernel⟩
abbrev st_wrong_value : Stmt := topS 15
abbrev nm_wrong_value : List Str := ["values", "many", "at", "value"]
theorem sc_wrong_value : FnScope nm_wrong_value ["values", "many"] (defScope st_wrong_value) := ⟨rfl, rfl, rfl, by decide +kernel, rfl, by decide +kernel, by decide +kernel⟩
abbrev st_check_values : Stmt := topS 16
abbrev nm_check_values : List Str := ["arguments", "many", "at"]
theorem sc_check_values : FnScope nm_check_values ["arguments", "many"] (defScope st_check_values) := ⟨rfl, rfl, rfl, by decide +kernel, rfl, by decide +kernel, by decide +kernel⟩
abbrev st_check_store : Stmt := topS 17
abbrev nm_check_store : List Str := ["store", "many", "at"]
theorem sc_check_store : FnScope nm_check_store ["store", "many"] (defScope st_check_store) := ⟨rfl, rfl, rfl, by decide +kernel, rfl, by decide +kernel, by decide +kernel⟩
abbrev st_Run___init__ : Stmt := inClass (topS 21) 0
abbrev nm_Run___init__ : List Str := ["self", "arguments", "store", "moves"]
theorem sc_Run___init__ : FnScope nm_Run___init__ ["self", "arguments", "store", "moves"] (defScope st_Run___init__) := ⟨rfl, rfl, rfl, by decide +kernel, rfl, by decide +kernel, by decide +kernel⟩
abbrev st_Run_arguments : Stmt := inClass (topS 21) 1
abbrev nm_Run_arguments : List Str := ["self"]
theorem sc_Run_arguments : FnScope nm_Run_arguments ["self"] (defScope st_Run_arguments) := ⟨rfl, rfl, rfl, by decide +kernel, rfl, by decide +kernel, by decide +kernel⟩
abbrev st_Run_store : Stmt := inClass (topS 21) 2
abbrev nm_Run_store : List Str := ["self"]
theorem sc_Run_store : FnScope nm_Run_store ["self"] (defScope st_Run_store) := ⟨rfl, rfl, rfl, by decide +kernel, rfl, by decide +kernel, by decide +kernel⟩
abbrev st_Run_moves : Stmt := inClass (topS 21) 3
abbrev nm_Run_moves : List Str := ["self"]
theorem sc_Run_moves : FnScope nm_Run_moves ["self"] (defScope st_Run_moves) := ⟨rfl, rfl, rfl, by decide +kernel, rfl, by decide +kernel, by decide +kernel⟩
abbrev st_Run_steps : Stmt := inClass (topS 21) 4
abbrev nm_Run_steps : List Str := ["self"]
theorem sc_Run_steps : FnScope nm_Run_steps ["self"] (defScope st_Run_steps) := ⟨rfl, rfl, rfl, by decide +kernel, rfl, by decide +kernel, by decide +kernel⟩
abbrev st_Run___eq__ : Stmt := inClass (topS 21) 5
abbrev nm_Run___eq__ : List Str := ["self", "other"]
theorem sc_Run___eq__ : FnScope nm_Run___eq__ ["self", "other"] (defScope st_Run___eq__) := ⟨rfl, rfl, rfl, by decide +kernel, rfl, by decide +kernel, by decide +kernel⟩
abbrev st_Run___repr__ : Stmt := inClass (topS 21) 6
abbrev nm_Run___repr__ : List Str := ["self"]
theorem sc_Run___repr__ : FnScope nm_Run___repr__ ["self"] (defScope st_Run___repr__) := ⟨rfl, rfl, rfl, by decide +kernel, rfl, by decide +kernel, by decide +kernel⟩
abbrev st_length_of : Stmt := topS 22
abbrev nm_length_of : List Str := ["value"]
theorem sc_length_of : FnScope nm_length_of ["value"] (defScope st_length_of) := ⟨rfl, rfl, rfl, by decide +kernel, rfl, by decide +kernel, by decide +kernel⟩
abbrev st_is_move : Stmt := topS 23
abbrev nm_is_move : List Str := ["value"]
theorem sc_is_move : FnScope nm_is_move ["value"] (defScope st_is_move) := ⟨rfl, rfl, rfl, by decide +kernel, rfl, by decide +kernel, by decide +kernel⟩
abbrev st_check_moves : Stmt := topS 24
abbrev nm_check_moves : List Str := ["moves", "at", "move"]
theorem sc_check_moves : FnScope nm_check_moves ["moves"] (defScope st_check_moves) := ⟨rfl, rfl, rfl, by decide +kernel, rfl, by decide +kernel, by decide +kernel⟩
abbrev st_law_draw : Stmt := topS 26
abbrev nm_law_draw : List Str := ["_law_source", "_law_many", "_law_seed", "_law_digit"]
theorem sc_law_draw : FnScope nm_law_draw ["_law_source", "_law_many"] (defScope st_law_draw) := ⟨rfl, rfl, rfl, by decide +kernel, rfl, by decide +kernel, by decide +kernel⟩
abbrev st_law_all : Stmt := topS 27
abbrev nm_law_all : List Str := ["_law_script", "_law_some", "_law_x"]
theorem sc_law_all : FnScope nm_law_all ["_law_script"] (defScope st_law_all) := ⟨rfl, rfl, rfl, by decide +kernel, rfl, by decide +kernel, by decide +kernel⟩
abbrev st_law_values : Stmt := topS 28
abbrev nm_law_values : List Str := ["_law_source", "_law_many", "_law_some", "_law_turn"]
theorem sc_law_values : FnScope nm_law_values ["_law_source", "_law_many"] (defScope st_law_values) := ⟨rfl, rfl, rfl, by decide +kernel, rfl, by decide +kernel, by decide +kernel⟩
abbrev st_law_labels : Stmt := topS 29
abbrev nm_law_labels : List Str := ["_law_source", "_law_many", "_law_letters", "_law_found", "_law_k", "_law_label", "_law_turn", "_law_at"]
theorem sc_law_labels : FnScope nm_law_labels ["_law_source", "_law_many"] (defScope st_law_labels) := ⟨rfl, rfl, rfl, by decide +kernel, rfl, by decide +kernel, by decide +kernel⟩
abbrev st_law_any : Stmt := topS 30
abbrev nm_law_any : List Str := ["_law_source", "_law_boxes", "_law_box", "_law_kind", "_law_some"]
theorem sc_law_any : FnScope nm_law_any ["_law_source", "_law_boxes"] (defScope st_law_any) := ⟨rfl, rfl, rfl, by decide +kernel, rfl, by decide +kernel, by decide +kernel⟩
abbrev st_law_parts : Stmt := topS 31
abbrev nm_law_parts : List Str := ["_law_made"]
theorem sc_law_parts : FnScope nm_law_parts ["_law_made"] (defScope st_law_parts) := ⟨rfl, rfl, rfl, by decide +kernel, rfl, by decide +kernel, by decide +kernel⟩
abbrev st_law_due : Stmt := topS 32
abbrev nm_law_due : List Str := ["_law_row", "_law_line"]
theorem sc_law_due : FnScope nm_law_due ["_law_row"] (defScope st_law_due) := ⟨rfl, rfl, rfl, by decide +kernel, rfl, by decide +kernel, by decide +kernel⟩
abbrev st_law_right : Stmt := topS 33
abbrev nm_law_right : List Str := ["_law_source", "_law_boxes", "_law_given", "_law_first", "_law_many", "_law_path", "_law_at", "_law_bent", "_law_rows", "_law_some", "_law_more", "_law_alike", "_law_turn", "_law_row", "_law_made", "_law_thing"]
theorem sc_law_right : FnScope nm_law_right ["_law_source"] (defScope st_law_right) := ⟨rfl, rfl, rfl, by decide +kernel, rfl, by decide +kernel, by decide +kernel⟩
abbrev st_law : Stmt := topS 34
abbrev nm_law : List Str := ["_law_script", "_law_source"]
theorem sc_law : FnScope nm_law ["_law_script"] (defScope st_law) := ⟨rfl, rfl, rfl, by decide +kernel, rfl, by decide +kernel, by decide +kernel⟩
def kp_Run {α : Type} (us ws : List α) : List α := match us, ws with | [u], [w0, w1, w2] => [u, w2, w1, w0] | _, _ => []
theorem kp_Run_rel {vs : List V} {us : List Value} {zs : List V} {ws : List Value} (r : Vals vs us) (q : Vals zs ws) : Vals (kp_Run vs zs) (kp_Run us ws) := by
  match r with
  | .nil => exact .nil
  | .cons _ (.cons _ _) => exact .nil
  | .cons r0 .nil =>
    match q with
    | .nil => exact .nil
    | .cons _ (.nil) => exact .nil
    | .cons _ (.cons _ (.nil)) => exact .nil
    | .cons q0 (.cons q1 (.cons q2 (.nil))) => exact .cons r0 (.cons q2 (.cons q1 (.cons q0 (.nil))))
    | .cons _ (.cons _ (.cons _ (.cons _ (_)))) => exact .nil
structure Ads where
  t_LETTERS : Tok
  t_SIGNS : Tok
  t_NOTHING : Tok
  t_YES : Tok
  t_LONGEST : Tok
  u_BRINGING : Addr
  u_LEAVING : Addr
  c_Run : Addr
  a_is_name : Addr
  d_is_name : FuncData
  a_is_integer : Addr
  d_is_integer : FuncData
  a_is_mark : Addr
  d_is_mark : FuncData
  a_is_value : Addr
  d_is_value : FuncData
  a_wrong_value : Addr
  d_wrong_value : FuncData
  a_check_values : Addr
  d_check_values : FuncData
  a_check_store : Addr
  d_check_store : FuncData
  a_Run___init__ : Addr
  d_Run___init__ : FuncData
  a_Run_arguments : Addr
  d_Run_arguments : FuncData
  a_Run_store : Addr
  d_Run_store : FuncData
  a_Run_moves : Addr
  d_Run_moves : FuncData
  a_Run_steps : Addr
  d_Run_steps : FuncData
  a_Run___eq__ : Addr
  d_Run___eq__ : FuncData
  a_Run___repr__ : Addr
  d_Run___repr__ : FuncData
  a_length_of : Addr
  d_length_of : FuncData
  a_is_move : Addr
  d_is_move : FuncData
  a_check_moves : Addr
  d_check_moves : FuncData
  a_law_draw : Addr
  d_law_draw : FuncData
  a_law_all : Addr
  d_law_all : FuncData
  a_law_values : Addr
  d_law_values : FuncData
  a_law_labels : Addr
  d_law_labels : FuncData
  a_law_any : Addr
  d_law_any : FuncData
  a_law_parts : Addr
  d_law_parts : FuncData
  a_law_due : Addr
  d_law_due : FuncData
  a_law_right : Addr
  d_law_right : FuncData
  a_law : Addr
  d_law : FuncData
  p_Run_arguments : Addr
  p_Run_store : Addr
  p_Run_moves : Addr
  p_Run_steps : Addr
structure Txt (K : PySem.W.Frag) (mg : Str → Option Value) (A : Ads) : Prop where
  b_abs : mg "abs" = none
  b_all : mg "all" = none
  b_bool : mg "bool" = none
  b_divmod : mg "divmod" = none
  b_enumerate : mg "enumerate" = none
  b_int : mg "int" = none
  b_isinstance : mg "isinstance" = none
  b_len : mg "len" = none
  b_list : mg "list" = none
  b_property : mg "property" = none
  b_range : mg "range" = none
  b_repr : mg "repr" = none
  b_str : mg "str" = none
  b_sum : mg "sum" = none
  b_tuple : mg "tuple" = none
  c_LETTERS : mg "LETTERS" = some (.str "abcdefghijklmnopqrstuvwxyz" A.t_LETTERS)
  c_SIGNS : mg "SIGNS" = some (.str "abcdefghijklmnopqrstuvwxyz0123456789" A.t_SIGNS)
  c_NOTHING : mg "NOTHING" = some (.str "nothing" A.t_NOTHING)
  c_YES : mg "YES" = some (.str "yes" A.t_YES)
  c_LONGEST : mg "LONGEST" = some (.int (8) A.t_LONGEST)
  c_BRINGING : mg "BRINGING" = some (.ref A.u_BRINGING)
  s_BRINGING : ∀ H, SqT K H A.u_BRINGING [.str "fill", .str "change"]
  c_LEAVING : mg "LEAVING" = some (.ref A.u_LEAVING)
  s_LEAVING : ∀ H, SqT K H A.u_LEAVING [.str "look", .str "empty"]
  k_is_name : PySem.W.keepIn K (.ref A.a_is_name) = true
  f_is_name : Fun K "is_name" "is_name" st_is_name A.a_is_name A.d_is_name
  v_is_name : Binds K A.d_is_name ["value"] []
  m_is_name : mg "is_name" = some (.ref A.a_is_name)
  k_is_integer : PySem.W.keepIn K (.ref A.a_is_integer) = true
  f_is_integer : Fun K "is_integer" "is_integer" st_is_integer A.a_is_integer A.d_is_integer
  v_is_integer : Binds K A.d_is_integer ["value"] []
  m_is_integer : mg "is_integer" = some (.ref A.a_is_integer)
  k_is_mark : PySem.W.keepIn K (.ref A.a_is_mark) = true
  f_is_mark : Fun K "is_mark" "is_mark" st_is_mark A.a_is_mark A.d_is_mark
  v_is_mark : Binds K A.d_is_mark ["value"] []
  m_is_mark : mg "is_mark" = some (.ref A.a_is_mark)
  k_is_value : PySem.W.keepIn K (.ref A.a_is_value) = true
  f_is_value : Fun K "is_value" "is_value" st_is_value A.a_is_value A.d_is_value
  v_is_value : Binds K A.d_is_value ["value"] []
  m_is_value : mg "is_value" = some (.ref A.a_is_value)
  k_wrong_value : PySem.W.keepIn K (.ref A.a_wrong_value) = true
  f_wrong_value : Fun K "wrong_value" "wrong_value" st_wrong_value A.a_wrong_value A.d_wrong_value
  v_wrong_value : Binds K A.d_wrong_value ["values", "many"] []
  m_wrong_value : mg "wrong_value" = some (.ref A.a_wrong_value)
  k_check_values : PySem.W.keepIn K (.ref A.a_check_values) = true
  f_check_values : Fun K "check_values" "check_values" st_check_values A.a_check_values A.d_check_values
  v_check_values : Binds K A.d_check_values ["arguments", "many"] []
  m_check_values : mg "check_values" = some (.ref A.a_check_values)
  k_check_store : PySem.W.keepIn K (.ref A.a_check_store) = true
  f_check_store : Fun K "check_store" "check_store" st_check_store A.a_check_store A.d_check_store
  v_check_store : Binds K A.d_check_store ["store", "many"] []
  m_check_store : mg "check_store" = some (.ref A.a_check_store)
  k_Run___init__ : PySem.W.keepIn K (.ref A.a_Run___init__) = true
  f_Run___init__ : Fun K "__init__" "Run.__init__" st_Run___init__ A.a_Run___init__ A.d_Run___init__
  v_Run___init__ : Binds K A.d_Run___init__ ["self", "arguments", "store", "moves"] []
  k_Run_arguments : PySem.W.keepIn K (.ref A.a_Run_arguments) = true
  f_Run_arguments : Fun K "arguments" "Run.arguments" st_Run_arguments A.a_Run_arguments A.d_Run_arguments
  v_Run_arguments : Binds K A.d_Run_arguments ["self"] []
  pr_Run_arguments : PropOf K A.c_Run "arguments" A.p_Run_arguments A.a_Run_arguments
  k_Run_store : PySem.W.keepIn K (.ref A.a_Run_store) = true
  f_Run_store : Fun K "store" "Run.store" st_Run_store A.a_Run_store A.d_Run_store
  v_Run_store : Binds K A.d_Run_store ["self"] []
  pr_Run_store : PropOf K A.c_Run "store" A.p_Run_store A.a_Run_store
  k_Run_moves : PySem.W.keepIn K (.ref A.a_Run_moves) = true
  f_Run_moves : Fun K "moves" "Run.moves" st_Run_moves A.a_Run_moves A.d_Run_moves
  v_Run_moves : Binds K A.d_Run_moves ["self"] []
  pr_Run_moves : PropOf K A.c_Run "moves" A.p_Run_moves A.a_Run_moves
  k_Run_steps : PySem.W.keepIn K (.ref A.a_Run_steps) = true
  f_Run_steps : Fun K "steps" "Run.steps" st_Run_steps A.a_Run_steps A.d_Run_steps
  v_Run_steps : Binds K A.d_Run_steps ["self"] []
  pr_Run_steps : PropOf K A.c_Run "steps" A.p_Run_steps A.a_Run_steps
  k_Run___eq__ : PySem.W.keepIn K (.ref A.a_Run___eq__) = true
  f_Run___eq__ : Fun K "__eq__" "Run.__eq__" st_Run___eq__ A.a_Run___eq__ A.d_Run___eq__
  v_Run___eq__ : Binds K A.d_Run___eq__ ["self", "other"] []
  sp_Run___eq__ : Spc K A.c_Run "__eq__" A.a_Run___eq__
  k_Run___repr__ : PySem.W.keepIn K (.ref A.a_Run___repr__) = true
  f_Run___repr__ : Fun K "__repr__" "Run.__repr__" st_Run___repr__ A.a_Run___repr__ A.d_Run___repr__
  v_Run___repr__ : Binds K A.d_Run___repr__ ["self"] []
  sp_Run___repr__ : Spc K A.c_Run "__repr__" A.a_Run___repr__
  k_length_of : PySem.W.keepIn K (.ref A.a_length_of) = true
  f_length_of : Fun K "length_of" "length_of" st_length_of A.a_length_of A.d_length_of
  v_length_of : Binds K A.d_length_of ["value"] []
  m_length_of : mg "length_of" = some (.ref A.a_length_of)
  k_is_move : PySem.W.keepIn K (.ref A.a_is_move) = true
  f_is_move : Fun K "is_move" "is_move" st_is_move A.a_is_move A.d_is_move
  v_is_move : Binds K A.d_is_move ["value"] []
  m_is_move : mg "is_move" = some (.ref A.a_is_move)
  k_check_moves : PySem.W.keepIn K (.ref A.a_check_moves) = true
  f_check_moves : Fun K "check_moves" "check_moves" st_check_moves A.a_check_moves A.d_check_moves
  v_check_moves : Binds K A.d_check_moves ["moves"] []
  m_check_moves : mg "check_moves" = some (.ref A.a_check_moves)
  k_law_draw : PySem.W.keepIn K (.ref A.a_law_draw) = true
  f_law_draw : Fun K "_law_draw" "_law_draw" st_law_draw A.a_law_draw A.d_law_draw
  v_law_draw : Binds K A.d_law_draw ["_law_source", "_law_many"] []
  m_law_draw : mg "_law_draw" = some (.ref A.a_law_draw)
  k_law_all : PySem.W.keepIn K (.ref A.a_law_all) = true
  f_law_all : Fun K "_law_all" "_law_all" st_law_all A.a_law_all A.d_law_all
  v_law_all : Binds K A.d_law_all ["_law_script"] []
  m_law_all : mg "_law_all" = some (.ref A.a_law_all)
  k_law_values : PySem.W.keepIn K (.ref A.a_law_values) = true
  f_law_values : Fun K "_law_values" "_law_values" st_law_values A.a_law_values A.d_law_values
  v_law_values : Binds K A.d_law_values ["_law_source", "_law_many"] []
  m_law_values : mg "_law_values" = some (.ref A.a_law_values)
  k_law_labels : PySem.W.keepIn K (.ref A.a_law_labels) = true
  f_law_labels : Fun K "_law_labels" "_law_labels" st_law_labels A.a_law_labels A.d_law_labels
  v_law_labels : Binds K A.d_law_labels ["_law_source", "_law_many"] []
  m_law_labels : mg "_law_labels" = some (.ref A.a_law_labels)
  k_law_any : PySem.W.keepIn K (.ref A.a_law_any) = true
  f_law_any : Fun K "_law_any" "_law_any" st_law_any A.a_law_any A.d_law_any
  v_law_any : Binds K A.d_law_any ["_law_source", "_law_boxes"] []
  m_law_any : mg "_law_any" = some (.ref A.a_law_any)
  k_law_parts : PySem.W.keepIn K (.ref A.a_law_parts) = true
  f_law_parts : Fun K "_law_parts" "_law_parts" st_law_parts A.a_law_parts A.d_law_parts
  v_law_parts : Binds K A.d_law_parts ["_law_made"] []
  m_law_parts : mg "_law_parts" = some (.ref A.a_law_parts)
  k_law_due : PySem.W.keepIn K (.ref A.a_law_due) = true
  f_law_due : Fun K "_law_due" "_law_due" st_law_due A.a_law_due A.d_law_due
  v_law_due : Binds K A.d_law_due ["_law_row"] []
  m_law_due : mg "_law_due" = some (.ref A.a_law_due)
  k_law_right : PySem.W.keepIn K (.ref A.a_law_right) = true
  f_law_right : Fun K "_law_right" "_law_right" st_law_right A.a_law_right A.d_law_right
  v_law_right : Binds K A.d_law_right ["_law_source"] []
  m_law_right : mg "_law_right" = some (.ref A.a_law_right)
  k_law : PySem.W.keepIn K (.ref A.a_law) = true
  f_law : Fun K "law" "law" st_law A.a_law A.d_law
  v_law : Binds K A.d_law ["_law_script"] []
  m_law : mg "law" = some (.ref A.a_law)
  m_Run : mg "Run" = some (.ref A.c_Run)
  cl_Run : Cls K A.c_Run
  mk_Run : Mk K A.c_Run A.a_Run___init__
  ty_Run : ∀ (H : Hp) (a dx : Addr) (fs : List (Str × V)), H a = some (.ins A.c_Run dx fs) → TyX K H (.ref a) (.ref A.c_Run)
  mo_Run : PySem.W.mroIn K A.c_Run (.type "object") = some true
  ne_Run : PySem.W.findIn K (.ref A.c_Run) "__ne__" = some (some (.builtin "object.__ne__"))
  ns_Run : PySem.W.notFirst K A.c_Run (.ref A.c_Run) = true
  ks_Run : PySem.W.kitOne K (.ref A.c_Run) (.ref A.c_Run) = some true
  ki_Run : ∀ n : Ty7, PySem.W.kitOne K (.type n.nm) (.ref A.c_Run) = some false
  nf_Run : ∀ n : Ty7, PySem.W.notFirst K A.c_Run (.type n.nm) = true
  na_Run_parts : NoAttr K A.c_Run "parts"
  kb_Run : KBn K A.d_Run___init__ ["self", "arguments", "store", "moves"] 1 ["moves", "store", "arguments"] kp_Run kp_Run
theorem txt_mk {K : PySem.W.Frag} {h : Heap} {mg : Str → Option Value} (X : K.In h) (G : h.Ns mainGlobals mg)
    {t_LETTERS : Tok}
    {t_SIGNS : Tok}
    {t_NOTHING : Tok}
    {t_YES : Tok}
    {t_LONGEST : Tok}
    {u_BRINGING : Addr}
    {u_LEAVING : Addr}
    {c_Run : Addr}
    {dd_BRINGING : Option Addr} {sl_BRINGING : Array (Option Value)} {nn_BRINGING : Nat} {w_BRINGING_0 w_BRINGING_1 : Tok}
    {dd_LEAVING : Option Addr} {sl_LEAVING : Array (Option Value)} {nn_LEAVING : Nat} {w_LEAVING_0 w_LEAVING_1 : Tok}
    {f_is_name : Addr} {od0 an0 : Option Addr} {sl0 : Array (Option Value)} {oc0 kV0 dc0 pm0 cd0 ct0 : Value}
    {f_is_integer : Addr} {od1 an1 : Option Addr} {sl1 : Array (Option Value)} {oc1 kV1 dc1 pm1 cd1 ct1 : Value}
    {f_is_mark : Addr} {od2 an2 : Option Addr} {sl2 : Array (Option Value)} {oc2 kV2 dc2 pm2 cd2 ct2 : Value}
    {f_is_value : Addr} {od3 an3 : Option Addr} {sl3 : Array (Option Value)} {oc3 kV3 dc3 pm3 cd3 ct3 : Value}
    {f_wrong_value : Addr} {od4 an4 : Option Addr} {sl4 : Array (Option Value)} {oc4 kV4 dc4 pm4 cd4 ct4 : Value}
    {f_check_values : Addr} {od5 an5 : Option Addr} {sl5 : Array (Option Value)} {oc5 kV5 dc5 pm5 cd5 ct5 : Value}
    {f_check_store : Addr} {od6 an6 : Option Addr} {sl6 : Array (Option Value)} {oc6 kV6 dc6 pm6 cd6 ct6 : Value}
    {f_Run___init__ : Addr} {od7 an7 : Option Addr} {sl7 : Array (Option Value)} {oc7 kV7 dc7 pm7 cd7 ct7 : Value}
    {f_Run_arguments : Addr} {od8 an8 : Option Addr} {sl8 : Array (Option Value)} {oc8 kV8 dc8 pm8 cd8 ct8 : Value}
    {p_Run_arguments : Addr} {rs_Run_arguments : List Value}
    {f_Run_store : Addr} {od9 an9 : Option Addr} {sl9 : Array (Option Value)} {oc9 kV9 dc9 pm9 cd9 ct9 : Value}
    {p_Run_store : Addr} {rs_Run_store : List Value}
    {f_Run_moves : Addr} {od10 an10 : Option Addr} {sl10 : Array (Option Value)} {oc10 kV10 dc10 pm10 cd10 ct10 : Value}
    {p_Run_moves : Addr} {rs_Run_moves : List Value}
    {f_Run_steps : Addr} {od11 an11 : Option Addr} {sl11 : Array (Option Value)} {oc11 kV11 dc11 pm11 cd11 ct11 : Value}
    {p_Run_steps : Addr} {rs_Run_steps : List Value}
    {f_Run___eq__ : Addr} {od12 an12 : Option Addr} {sl12 : Array (Option Value)} {oc12 kV12 dc12 pm12 cd12 ct12 : Value}
    {f_Run___repr__ : Addr} {od13 an13 : Option Addr} {sl13 : Array (Option Value)} {oc13 kV13 dc13 pm13 cd13 ct13 : Value}
    {f_length_of : Addr} {od14 an14 : Option Addr} {sl14 : Array (Option Value)} {oc14 kV14 dc14 pm14 cd14 ct14 : Value}
    {f_is_move : Addr} {od15 an15 : Option Addr} {sl15 : Array (Option Value)} {oc15 kV15 dc15 pm15 cd15 ct15 : Value}
    {f_check_moves : Addr} {od16 an16 : Option Addr} {sl16 : Array (Option Value)} {oc16 kV16 dc16 pm16 cd16 ct16 : Value}
    {f_law_draw : Addr} {od17 an17 : Option Addr} {sl17 : Array (Option Value)} {oc17 kV17 dc17 pm17 cd17 ct17 : Value}
    {f_law_all : Addr} {od18 an18 : Option Addr} {sl18 : Array (Option Value)} {oc18 kV18 dc18 pm18 cd18 ct18 : Value}
    {f_law_values : Addr} {od19 an19 : Option Addr} {sl19 : Array (Option Value)} {oc19 kV19 dc19 pm19 cd19 ct19 : Value}
    {f_law_labels : Addr} {od20 an20 : Option Addr} {sl20 : Array (Option Value)} {oc20 kV20 dc20 pm20 cd20 ct20 : Value}
    {f_law_any : Addr} {od21 an21 : Option Addr} {sl21 : Array (Option Value)} {oc21 kV21 dc21 pm21 cd21 ct21 : Value}
    {f_law_parts : Addr} {od22 an22 : Option Addr} {sl22 : Array (Option Value)} {oc22 kV22 dc22 pm22 cd22 ct22 : Value}
    {f_law_due : Addr} {od23 an23 : Option Addr} {sl23 : Array (Option Value)} {oc23 kV23 dc23 pm23 cd23 ct23 : Value}
    {f_law_right : Addr} {od24 an24 : Option Addr} {sl24 : Array (Option Value)} {oc24 kV24 dc24 pm24 cd24 ct24 : Value}
    {f_law : Addr} {od25 an25 : Option Addr} {sl25 : Array (Option Value)} {oc25 kV25 dc25 pm25 cd25 ct25 : Value}
    (z_abs : PySem.W.nsIn K mainGlobals "abs" = some none)
    (z_all : PySem.W.nsIn K mainGlobals "all" = some none)
    (z_bool : PySem.W.nsIn K mainGlobals "bool" = some none)
    (z_divmod : PySem.W.nsIn K mainGlobals "divmod" = some none)
    (z_enumerate : PySem.W.nsIn K mainGlobals "enumerate" = some none)
    (z_int : PySem.W.nsIn K mainGlobals "int" = some none)
    (z_isinstance : PySem.W.nsIn K mainGlobals "isinstance" = some none)
    (z_len : PySem.W.nsIn K mainGlobals "len" = some none)
    (z_list : PySem.W.nsIn K mainGlobals "list" = some none)
    (z_property : PySem.W.nsIn K mainGlobals "property" = some none)
    (z_range : PySem.W.nsIn K mainGlobals "range" = some none)
    (z_repr : PySem.W.nsIn K mainGlobals "repr" = some none)
    (z_str : PySem.W.nsIn K mainGlobals "str" = some none)
    (z_sum : PySem.W.nsIn K mainGlobals "sum" = some none)
    (z_tuple : PySem.W.nsIn K mainGlobals "tuple" = some none)
    (q_LETTERS : PySem.W.nsIn K mainGlobals "LETTERS" = some (some (.str "abcdefghijklmnopqrstuvwxyz" t_LETTERS)))
    (q_SIGNS : PySem.W.nsIn K mainGlobals "SIGNS" = some (some (.str "abcdefghijklmnopqrstuvwxyz0123456789" t_SIGNS)))
    (q_NOTHING : PySem.W.nsIn K mainGlobals "NOTHING" = some (some (.str "nothing" t_NOTHING)))
    (q_YES : PySem.W.nsIn K mainGlobals "YES" = some (some (.str "yes" t_YES)))
    (q_LONGEST : PySem.W.nsIn K mainGlobals "LONGEST" = some (some (.int (8) t_LONGEST)))
    (q_BRINGING : PySem.W.nsIn K mainGlobals "BRINGING" = some (some (.ref u_BRINGING)))
    (r_BRINGING : K.lookup u_BRINGING = some ⟨.type "tuple", dd_BRINGING, .seq #[.str "fill" w_BRINGING_0, .str "change" w_BRINGING_1] nn_BRINGING, sl_BRINGING⟩)
    (q_LEAVING : PySem.W.nsIn K mainGlobals "LEAVING" = some (some (.ref u_LEAVING)))
    (r_LEAVING : K.lookup u_LEAVING = some ⟨.type "tuple", dd_LEAVING, .seq #[.str "look" w_LEAVING_0, .str "empty" w_LEAVING_1] nn_LEAVING, sl_LEAVING⟩)
    (a_Run : PySem.W.nsIn K mainGlobals "Run" = some (some (.ref c_Run)))
    (a0 : PySem.W.nsIn K mainGlobals "is_name" = some (some (.ref f_is_name)))
    (l0 : K.lookup f_is_name = some ⟨oc0, od0, .func (PySem.W.fnOf "is_name" "is_name" (defArgs st_is_name) (defBody st_is_name) (defScope st_is_name) .none kV0 dc0 pm0 an0 cd0 ct0), sl0⟩)
    (e0 : PySem.W.codeIn K cd0 "is_name" = true)
    (k0 : PySem.W.keepIn K (.ref f_is_name) = true)
    (a1 : PySem.W.nsIn K mainGlobals "is_integer" = some (some (.ref f_is_integer)))
    (l1 : K.lookup f_is_integer = some ⟨oc1, od1, .func (PySem.W.fnOf "is_integer" "is_integer" (defArgs st_is_integer) (defBody st_is_integer) (defScope st_is_integer) .none kV1 dc1 pm1 an1 cd1 ct1), sl1⟩)
    (e1 : PySem.W.codeIn K cd1 "is_integer" = true)
    (k1 : PySem.W.keepIn K (.ref f_is_integer) = true)
    (a2 : PySem.W.nsIn K mainGlobals "is_mark" = some (some (.ref f_is_mark)))
    (l2 : K.lookup f_is_mark = some ⟨oc2, od2, .func (PySem.W.fnOf "is_mark" "is_mark" (defArgs st_is_mark) (defBody st_is_mark) (defScope st_is_mark) .none kV2 dc2 pm2 an2 cd2 ct2), sl2⟩)
    (e2 : PySem.W.codeIn K cd2 "is_mark" = true)
    (k2 : PySem.W.keepIn K (.ref f_is_mark) = true)
    (a3 : PySem.W.nsIn K mainGlobals "is_value" = some (some (.ref f_is_value)))
    (l3 : K.lookup f_is_value = some ⟨oc3, od3, .func (PySem.W.fnOf "is_value" "is_value" (defArgs st_is_value) (defBody st_is_value) (defScope st_is_value) .none kV3 dc3 pm3 an3 cd3 ct3), sl3⟩)
    (e3 : PySem.W.codeIn K cd3 "is_value" = true)
    (k3 : PySem.W.keepIn K (.ref f_is_value) = true)
    (a4 : PySem.W.nsIn K mainGlobals "wrong_value" = some (some (.ref f_wrong_value)))
    (l4 : K.lookup f_wrong_value = some ⟨oc4, od4, .func (PySem.W.fnOf "wrong_value" "wrong_value" (defArgs st_wrong_value) (defBody st_wrong_value) (defScope st_wrong_value) .none kV4 dc4 pm4 an4 cd4 ct4), sl4⟩)
    (e4 : PySem.W.codeIn K cd4 "wrong_value" = true)
    (k4 : PySem.W.keepIn K (.ref f_wrong_value) = true)
    (a5 : PySem.W.nsIn K mainGlobals "check_values" = some (some (.ref f_check_values)))
    (l5 : K.lookup f_check_values = some ⟨oc5, od5, .func (PySem.W.fnOf "check_values" "check_values" (defArgs st_check_values) (defBody st_check_values) (defScope st_check_values) .none kV5 dc5 pm5 an5 cd5 ct5), sl5⟩)
    (e5 : PySem.W.codeIn K cd5 "check_values" = true)
    (k5 : PySem.W.keepIn K (.ref f_check_values) = true)
    (a6 : PySem.W.nsIn K mainGlobals "check_store" = some (some (.ref f_check_store)))
    (l6 : K.lookup f_check_store = some ⟨oc6, od6, .func (PySem.W.fnOf "check_store" "check_store" (defArgs st_check_store) (defBody st_check_store) (defScope st_check_store) .none kV6 dc6 pm6 an6 cd6 ct6), sl6⟩)
    (e6 : PySem.W.codeIn K cd6 "check_store" = true)
    (k6 : PySem.W.keepIn K (.ref f_check_store) = true)
    (a7 : PySem.W.findIn K (.ref c_Run) "__init__" = some (some (.ref f_Run___init__)))
    (i7 : PySem.W.isFn K (.ref f_Run___init__) = true)
    (l7 : K.lookup f_Run___init__ = some ⟨oc7, od7, .func (PySem.W.fnOf "__init__" "Run.__init__" (defArgs st_Run___init__) (defBody st_Run___init__) (defScope st_Run___init__) .none kV7 dc7 pm7 an7 cd7 ct7), sl7⟩)
    (e7 : PySem.W.codeIn K cd7 "Run.__init__" = true)
    (k7 : PySem.W.keepIn K (.ref f_Run___init__) = true)
    (a8 : PySem.W.findIn K (.ref c_Run) "arguments" = some (some (.ref p_Run_arguments)))
    (pg8 : PySem.W.specialIn K (.ref p_Run_arguments) "__get__" = some (some (.builtin "property.__get__")))
    (pt8 : PySem.W.takesIn K (.ref p_Run_arguments) = some true)
    (pr8 : PySem.W.recIn K p_Run_arguments "property" = some (.ref f_Run_arguments :: rs_Run_arguments))
    (l8 : K.lookup f_Run_arguments = some ⟨oc8, od8, .func (PySem.W.fnOf "arguments" "Run.arguments" (defArgs st_Run_arguments) (defBody st_Run_arguments) (defScope st_Run_arguments) .none kV8 dc8 pm8 an8 cd8 ct8), sl8⟩)
    (e8 : PySem.W.codeIn K cd8 "Run.arguments" = true)
    (k8 : PySem.W.keepIn K (.ref f_Run_arguments) = true)
    (a9 : PySem.W.findIn K (.ref c_Run) "store" = some (some (.ref p_Run_store)))
    (pg9 : PySem.W.specialIn K (.ref p_Run_store) "__get__" = some (some (.builtin "property.__get__")))
    (pt9 : PySem.W.takesIn K (.ref p_Run_store) = some true)
    (pr9 : PySem.W.recIn K p_Run_store "property" = some (.ref f_Run_store :: rs_Run_store))
    (l9 : K.lookup f_Run_store = some ⟨oc9, od9, .func (PySem.W.fnOf "store" "Run.store" (defArgs st_Run_store) (defBody st_Run_store) (defScope st_Run_store) .none kV9 dc9 pm9 an9 cd9 ct9), sl9⟩)
    (e9 : PySem.W.codeIn K cd9 "Run.store" = true)
    (k9 : PySem.W.keepIn K (.ref f_Run_store) = true)
    (a10 : PySem.W.findIn K (.ref c_Run) "moves" = some (some (.ref p_Run_moves)))
    (pg10 : PySem.W.specialIn K (.ref p_Run_moves) "__get__" = some (some (.builtin "property.__get__")))
    (pt10 : PySem.W.takesIn K (.ref p_Run_moves) = some true)
    (pr10 : PySem.W.recIn K p_Run_moves "property" = some (.ref f_Run_moves :: rs_Run_moves))
    (l10 : K.lookup f_Run_moves = some ⟨oc10, od10, .func (PySem.W.fnOf "moves" "Run.moves" (defArgs st_Run_moves) (defBody st_Run_moves) (defScope st_Run_moves) .none kV10 dc10 pm10 an10 cd10 ct10), sl10⟩)
    (e10 : PySem.W.codeIn K cd10 "Run.moves" = true)
    (k10 : PySem.W.keepIn K (.ref f_Run_moves) = true)
    (a11 : PySem.W.findIn K (.ref c_Run) "steps" = some (some (.ref p_Run_steps)))
    (pg11 : PySem.W.specialIn K (.ref p_Run_steps) "__get__" = some (some (.builtin "property.__get__")))
    (pt11 : PySem.W.takesIn K (.ref p_Run_steps) = some true)
    (pr11 : PySem.W.recIn K p_Run_steps "property" = some (.ref f_Run_steps :: rs_Run_steps))
    (l11 : K.lookup f_Run_steps = some ⟨oc11, od11, .func (PySem.W.fnOf "steps" "Run.steps" (defArgs st_Run_steps) (defBody st_Run_steps) (defScope st_Run_steps) .none kV11 dc11 pm11 an11 cd11 ct11), sl11⟩)
    (e11 : PySem.W.codeIn K cd11 "Run.steps" = true)
    (k11 : PySem.W.keepIn K (.ref f_Run_steps) = true)
    (a12 : PySem.W.findIn K (.ref c_Run) "__eq__" = some (some (.ref f_Run___eq__)))
    (i12 : PySem.W.isFn K (.ref f_Run___eq__) = true)
    (l12 : K.lookup f_Run___eq__ = some ⟨oc12, od12, .func (PySem.W.fnOf "__eq__" "Run.__eq__" (defArgs st_Run___eq__) (defBody st_Run___eq__) (defScope st_Run___eq__) .none kV12 dc12 pm12 an12 cd12 ct12), sl12⟩)
    (e12 : PySem.W.codeIn K cd12 "Run.__eq__" = true)
    (k12 : PySem.W.keepIn K (.ref f_Run___eq__) = true)
    (a13 : PySem.W.findIn K (.ref c_Run) "__repr__" = some (some (.ref f_Run___repr__)))
    (i13 : PySem.W.isFn K (.ref f_Run___repr__) = true)
    (l13 : K.lookup f_Run___repr__ = some ⟨oc13, od13, .func (PySem.W.fnOf "__repr__" "Run.__repr__" (defArgs st_Run___repr__) (defBody st_Run___repr__) (defScope st_Run___repr__) .none kV13 dc13 pm13 an13 cd13 ct13), sl13⟩)
    (e13 : PySem.W.codeIn K cd13 "Run.__repr__" = true)
    (k13 : PySem.W.keepIn K (.ref f_Run___repr__) = true)
    (a14 : PySem.W.nsIn K mainGlobals "length_of" = some (some (.ref f_length_of)))
    (l14 : K.lookup f_length_of = some ⟨oc14, od14, .func (PySem.W.fnOf "length_of" "length_of" (defArgs st_length_of) (defBody st_length_of) (defScope st_length_of) .none kV14 dc14 pm14 an14 cd14 ct14), sl14⟩)
    (e14 : PySem.W.codeIn K cd14 "length_of" = true)
    (k14 : PySem.W.keepIn K (.ref f_length_of) = true)
    (a15 : PySem.W.nsIn K mainGlobals "is_move" = some (some (.ref f_is_move)))
    (l15 : K.lookup f_is_move = some ⟨oc15, od15, .func (PySem.W.fnOf "is_move" "is_move" (defArgs st_is_move) (defBody st_is_move) (defScope st_is_move) .none kV15 dc15 pm15 an15 cd15 ct15), sl15⟩)
    (e15 : PySem.W.codeIn K cd15 "is_move" = true)
    (k15 : PySem.W.keepIn K (.ref f_is_move) = true)
    (a16 : PySem.W.nsIn K mainGlobals "check_moves" = some (some (.ref f_check_moves)))
    (l16 : K.lookup f_check_moves = some ⟨oc16, od16, .func (PySem.W.fnOf "check_moves" "check_moves" (defArgs st_check_moves) (defBody st_check_moves) (defScope st_check_moves) .none kV16 dc16 pm16 an16 cd16 ct16), sl16⟩)
    (e16 : PySem.W.codeIn K cd16 "check_moves" = true)
    (k16 : PySem.W.keepIn K (.ref f_check_moves) = true)
    (a17 : PySem.W.nsIn K mainGlobals "_law_draw" = some (some (.ref f_law_draw)))
    (l17 : K.lookup f_law_draw = some ⟨oc17, od17, .func (PySem.W.fnOf "_law_draw" "_law_draw" (defArgs st_law_draw) (defBody st_law_draw) (defScope st_law_draw) .none kV17 dc17 pm17 an17 cd17 ct17), sl17⟩)
    (e17 : PySem.W.codeIn K cd17 "_law_draw" = true)
    (k17 : PySem.W.keepIn K (.ref f_law_draw) = true)
    (a18 : PySem.W.nsIn K mainGlobals "_law_all" = some (some (.ref f_law_all)))
    (l18 : K.lookup f_law_all = some ⟨oc18, od18, .func (PySem.W.fnOf "_law_all" "_law_all" (defArgs st_law_all) (defBody st_law_all) (defScope st_law_all) .none kV18 dc18 pm18 an18 cd18 ct18), sl18⟩)
    (e18 : PySem.W.codeIn K cd18 "_law_all" = true)
    (k18 : PySem.W.keepIn K (.ref f_law_all) = true)
    (a19 : PySem.W.nsIn K mainGlobals "_law_values" = some (some (.ref f_law_values)))
    (l19 : K.lookup f_law_values = some ⟨oc19, od19, .func (PySem.W.fnOf "_law_values" "_law_values" (defArgs st_law_values) (defBody st_law_values) (defScope st_law_values) .none kV19 dc19 pm19 an19 cd19 ct19), sl19⟩)
    (e19 : PySem.W.codeIn K cd19 "_law_values" = true)
    (k19 : PySem.W.keepIn K (.ref f_law_values) = true)
    (a20 : PySem.W.nsIn K mainGlobals "_law_labels" = some (some (.ref f_law_labels)))
    (l20 : K.lookup f_law_labels = some ⟨oc20, od20, .func (PySem.W.fnOf "_law_labels" "_law_labels" (defArgs st_law_labels) (defBody st_law_labels) (defScope st_law_labels) .none kV20 dc20 pm20 an20 cd20 ct20), sl20⟩)
    (e20 : PySem.W.codeIn K cd20 "_law_labels" = true)
    (k20 : PySem.W.keepIn K (.ref f_law_labels) = true)
    (a21 : PySem.W.nsIn K mainGlobals "_law_any" = some (some (.ref f_law_any)))
    (l21 : K.lookup f_law_any = some ⟨oc21, od21, .func (PySem.W.fnOf "_law_any" "_law_any" (defArgs st_law_any) (defBody st_law_any) (defScope st_law_any) .none kV21 dc21 pm21 an21 cd21 ct21), sl21⟩)
    (e21 : PySem.W.codeIn K cd21 "_law_any" = true)
    (k21 : PySem.W.keepIn K (.ref f_law_any) = true)
    (a22 : PySem.W.nsIn K mainGlobals "_law_parts" = some (some (.ref f_law_parts)))
    (l22 : K.lookup f_law_parts = some ⟨oc22, od22, .func (PySem.W.fnOf "_law_parts" "_law_parts" (defArgs st_law_parts) (defBody st_law_parts) (defScope st_law_parts) .none kV22 dc22 pm22 an22 cd22 ct22), sl22⟩)
    (e22 : PySem.W.codeIn K cd22 "_law_parts" = true)
    (k22 : PySem.W.keepIn K (.ref f_law_parts) = true)
    (a23 : PySem.W.nsIn K mainGlobals "_law_due" = some (some (.ref f_law_due)))
    (l23 : K.lookup f_law_due = some ⟨oc23, od23, .func (PySem.W.fnOf "_law_due" "_law_due" (defArgs st_law_due) (defBody st_law_due) (defScope st_law_due) .none kV23 dc23 pm23 an23 cd23 ct23), sl23⟩)
    (e23 : PySem.W.codeIn K cd23 "_law_due" = true)
    (k23 : PySem.W.keepIn K (.ref f_law_due) = true)
    (a24 : PySem.W.nsIn K mainGlobals "_law_right" = some (some (.ref f_law_right)))
    (l24 : K.lookup f_law_right = some ⟨oc24, od24, .func (PySem.W.fnOf "_law_right" "_law_right" (defArgs st_law_right) (defBody st_law_right) (defScope st_law_right) .none kV24 dc24 pm24 an24 cd24 ct24), sl24⟩)
    (e24 : PySem.W.codeIn K cd24 "_law_right" = true)
    (k24 : PySem.W.keepIn K (.ref f_law_right) = true)
    (a25 : PySem.W.nsIn K mainGlobals "law" = some (some (.ref f_law)))
    (l25 : K.lookup f_law = some ⟨oc25, od25, .func (PySem.W.fnOf "law" "law" (defArgs st_law) (defBody st_law) (defScope st_law) .none kV25 dc25 pm25 an25 cd25 ct25), sl25⟩)
    (e25 : PySem.W.codeIn K cd25 "law" = true)
    (k25 : PySem.W.keepIn K (.ref f_law) = true)
    (pg_Run : PySem.W.plainGet K c_Run Str.empty = true)
    (hd_Run : PySem.W.hasDictIn K c_Run = true)
    (po_Run : PySem.W.plainOver K c_Run = true)
    (sa_Run : PySem.W.findIn K (.ref c_Run) "__setattr__" = some (some (.builtin "object.__setattr__")))
    (mk_Run : PySem.W.makesIn K c_Run = true)
    (kc_Run : PySem.W.keepIn K (.ref c_Run) = true)
    (xc_Run : PySem.W.findIn K (.ref c_Run) "__class__" = some (some (.builtin "object.__class__")))
    (xg_Run : PySem.W.specialIn K (.builtin "object.__class__") "__get__" = some (some (.builtin "getset_descriptor.__get__")))
    (xt_Run : PySem.W.takesIn K (.builtin "object.__class__") = some true)
    (xo_Run : PySem.W.mroIn K c_Run (.type "object") = some true)
    (xn_Run : PySem.W.findIn K (.ref c_Run) "__ne__" = some (some (.builtin "object.__ne__")))
    (ns_Run : PySem.W.notFirst K c_Run (.ref c_Run) = true)
    (ci_Run : PySem.W.isClsIn K c_Run = true)
    (tc_Run : PySem.W.typeIn K (.ref c_Run) = some (.type "type"))
    (ki_Run_NoneType : PySem.W.subIn K (.type "NoneType") (.ref c_Run) = some false)
    (nf_Run_NoneType : PySem.W.notFirst K c_Run (.type "NoneType") = true)
    (ki_Run_bool : PySem.W.subIn K (.type "bool") (.ref c_Run) = some false)
    (nf_Run_bool : PySem.W.notFirst K c_Run (.type "bool") = true)
    (ki_Run_int : PySem.W.subIn K (.type "int") (.ref c_Run) = some false)
    (nf_Run_int : PySem.W.notFirst K c_Run (.type "int") = true)
    (ki_Run_str : PySem.W.subIn K (.type "str") (.ref c_Run) = some false)
    (nf_Run_str : PySem.W.notFirst K c_Run (.type "str") = true)
    (ki_Run_tuple : PySem.W.subIn K (.type "tuple") (.ref c_Run) = some false)
    (nf_Run_tuple : PySem.W.notFirst K c_Run (.type "tuple") = true)
    (ki_Run_list : PySem.W.subIn K (.type "list") (.ref c_Run) = some false)
    (nf_Run_list : PySem.W.notFirst K c_Run (.type "list") = true)
    (ki_Run_dict : PySem.W.subIn K (.type "dict") (.ref c_Run) = some false)
    (nf_Run_dict : PySem.W.notFirst K c_Run (.type "dict") = true)
    (na_Run_parts : PySem.W.findIn K (.ref c_Run) "parts" = some none) :
    ∃ A : Ads, Txt K mg A ∧ ∀ (s : Shared) (v : Value), BindsTo s A.d_law ⟨[v], []⟩ [("_law_script", v)] := by
  have F0 := fun_mk (st := st_is_name) l0 e0 k0
  have F1 := fun_mk (st := st_is_integer) l1 e1 k1
  have F2 := fun_mk (st := st_is_mark) l2 e2 k2
  have F3 := fun_mk (st := st_is_value) l3 e3 k3
  have F4 := fun_mk (st := st_wrong_value) l4 e4 k4
  have F5 := fun_mk (st := st_check_values) l5 e5 k5
  have F6 := fun_mk (st := st_check_store) l6 e6 k6
  have F7 := fun_mk (st := st_Run___init__) l7 e7 k7
  have F8 := fun_mk (st := st_Run_arguments) l8 e8 k8
  have F9 := fun_mk (st := st_Run_store) l9 e9 k9
  have F10 := fun_mk (st := st_Run_moves) l10 e10 k10
  have F11 := fun_mk (st := st_Run_steps) l11 e11 k11
  have F12 := fun_mk (st := st_Run___eq__) l12 e12 k12
  have F13 := fun_mk (st := st_Run___repr__) l13 e13 k13
  have F14 := fun_mk (st := st_length_of) l14 e14 k14
  have F15 := fun_mk (st := st_is_move) l15 e15 k15
  have F16 := fun_mk (st := st_check_moves) l16 e16 k16
  have F17 := fun_mk (st := st_law_draw) l17 e17 k17
  have F18 := fun_mk (st := st_law_all) l18 e18 k18
  have F19 := fun_mk (st := st_law_values) l19 e19 k19
  have F20 := fun_mk (st := st_law_labels) l20 e20 k20
  have F21 := fun_mk (st := st_law_any) l21 e21 k21
  have F22 := fun_mk (st := st_law_parts) l22 e22 k22
  have F23 := fun_mk (st := st_law_due) l23 e23 k23
  have F24 := fun_mk (st := st_law_right) l24 e24 k24
  have F25 := fun_mk (st := st_law) l25 e25 k25
  exact ⟨⟨t_LETTERS, t_SIGNS, t_NOTHING, t_YES, t_LONGEST, u_BRINGING, u_LEAVING, c_Run, f_is_name, _, f_is_integer, _, f_is_mark, _, f_is_value, _, f_wrong_value, _, f_check_values, _, f_check_store, _, f_Run___init__, _, f_Run_arguments, _, f_Run_store, _, f_Run_moves, _, f_Run_steps, _, f_Run___eq__, _, f_Run___repr__, _, f_length_of, _, f_is_move, _, f_check_moves, _, f_law_draw, _, f_law_all, _, f_law_values, _, f_law_labels, _, f_law_any, _, f_law_parts, _, f_law_due, _, f_law_right, _, f_law, _, p_Run_arguments, p_Run_store, p_Run_moves, p_Run_steps⟩, ⟨PySem.W.mg_none_of X G z_abs,
    PySem.W.mg_none_of X G z_all,
    PySem.W.mg_none_of X G z_bool,
    PySem.W.mg_none_of X G z_divmod,
    PySem.W.mg_none_of X G z_enumerate,
    PySem.W.mg_none_of X G z_int,
    PySem.W.mg_none_of X G z_isinstance,
    PySem.W.mg_none_of X G z_len,
    PySem.W.mg_none_of X G z_list,
    PySem.W.mg_none_of X G z_property,
    PySem.W.mg_none_of X G z_range,
    PySem.W.mg_none_of X G z_repr,
    PySem.W.mg_none_of X G z_str,
    PySem.W.mg_none_of X G z_sum,
    PySem.W.mg_none_of X G z_tuple,
    PySem.W.mg_of X G q_LETTERS,
    PySem.W.mg_of X G q_SIGNS,
    PySem.W.mg_of X G q_NOTHING,
    PySem.W.mg_of X G q_YES,
    PySem.W.mg_of X G q_LONGEST,
    PySem.W.mg_of X G q_BRINGING,
    fun H => Mo.sqt_K r_BRINGING (by show 2 ≤ sizeLine; decide) (.cons ⟨_, rfl⟩ (.cons ⟨_, rfl⟩ (.nil))),
    PySem.W.mg_of X G q_LEAVING,
    fun H => Mo.sqt_K r_LEAVING (by show 2 ≤ sizeLine; decide) (.cons ⟨_, rfl⟩ (.cons ⟨_, rfl⟩ (.nil))),
    k0,
    F0,
    F0.binds (ps := ["value"]) fun _ _ _ _ _ _ us hl => match us, hl with | [_], _ => rfl,
    PySem.W.mg_of X G a0,
    k1,
    F1,
    F1.binds (ps := ["value"]) fun _ _ _ _ _ _ us hl => match us, hl with | [_], _ => rfl,
    PySem.W.mg_of X G a1,
    k2,
    F2,
    F2.binds (ps := ["value"]) fun _ _ _ _ _ _ us hl => match us, hl with | [_], _ => rfl,
    PySem.W.mg_of X G a2,
    k3,
    F3,
    F3.binds (ps := ["value"]) fun _ _ _ _ _ _ us hl => match us, hl with | [_], _ => rfl,
    PySem.W.mg_of X G a3,
    k4,
    F4,
    F4.binds (ps := ["values", "many"]) fun _ _ _ _ _ _ us hl => match us, hl with | [_, _], _ => rfl,
    PySem.W.mg_of X G a4,
    k5,
    F5,
    F5.binds (ps := ["arguments", "many"]) fun _ _ _ _ _ _ us hl => match us, hl with | [_, _], _ => rfl,
    PySem.W.mg_of X G a5,
    k6,
    F6,
    F6.binds (ps := ["store", "many"]) fun _ _ _ _ _ _ us hl => match us, hl with | [_, _], _ => rfl,
    PySem.W.mg_of X G a6,
    k7,
    F7,
    F7.binds (ps := ["self", "arguments", "store", "moves"]) fun _ _ _ _ _ _ us hl => match us, hl with | [_, _, _, _], _ => rfl,
    k8,
    F8,
    F8.binds (ps := ["self"]) fun _ _ _ _ _ _ us hl => match us, hl with | [_], _ => rfl,
    ⟨a8, pg8, pt8, _, pr8⟩,
    k9,
    F9,
    F9.binds (ps := ["self"]) fun _ _ _ _ _ _ us hl => match us, hl with | [_], _ => rfl,
    ⟨a9, pg9, pt9, _, pr9⟩,
    k10,
    F10,
    F10.binds (ps := ["self"]) fun _ _ _ _ _ _ us hl => match us, hl with | [_], _ => rfl,
    ⟨a10, pg10, pt10, _, pr10⟩,
    k11,
    F11,
    F11.binds (ps := ["self"]) fun _ _ _ _ _ _ us hl => match us, hl with | [_], _ => rfl,
    ⟨a11, pg11, pt11, _, pr11⟩,
    k12,
    F12,
    F12.binds (ps := ["self", "other"]) fun _ _ _ _ _ _ us hl => match us, hl with | [_, _], _ => rfl,
    ⟨a12, i12⟩,
    k13,
    F13,
    F13.binds (ps := ["self"]) fun _ _ _ _ _ _ us hl => match us, hl with | [_], _ => rfl,
    ⟨a13, i13⟩,
    k14,
    F14,
    F14.binds (ps := ["value"]) fun _ _ _ _ _ _ us hl => match us, hl with | [_], _ => rfl,
    PySem.W.mg_of X G a14,
    k15,
    F15,
    F15.binds (ps := ["value"]) fun _ _ _ _ _ _ us hl => match us, hl with | [_], _ => rfl,
    PySem.W.mg_of X G a15,
    k16,
    F16,
    F16.binds (ps := ["moves"]) fun _ _ _ _ _ _ us hl => match us, hl with | [_], _ => rfl,
    PySem.W.mg_of X G a16,
    k17,
    F17,
    F17.binds (ps := ["_law_source", "_law_many"]) fun _ _ _ _ _ _ us hl => match us, hl with | [_, _], _ => rfl,
    PySem.W.mg_of X G a17,
    k18,
    F18,
    F18.binds (ps := ["_law_script"]) fun _ _ _ _ _ _ us hl => match us, hl with | [_], _ => rfl,
    PySem.W.mg_of X G a18,
    k19,
    F19,
    F19.binds (ps := ["_law_source", "_law_many"]) fun _ _ _ _ _ _ us hl => match us, hl with | [_, _], _ => rfl,
    PySem.W.mg_of X G a19,
    k20,
    F20,
    F20.binds (ps := ["_law_source", "_law_many"]) fun _ _ _ _ _ _ us hl => match us, hl with | [_, _], _ => rfl,
    PySem.W.mg_of X G a20,
    k21,
    F21,
    F21.binds (ps := ["_law_source", "_law_boxes"]) fun _ _ _ _ _ _ us hl => match us, hl with | [_, _], _ => rfl,
    PySem.W.mg_of X G a21,
    k22,
    F22,
    F22.binds (ps := ["_law_made"]) fun _ _ _ _ _ _ us hl => match us, hl with | [_], _ => rfl,
    PySem.W.mg_of X G a22,
    k23,
    F23,
    F23.binds (ps := ["_law_row"]) fun _ _ _ _ _ _ us hl => match us, hl with | [_], _ => rfl,
    PySem.W.mg_of X G a23,
    k24,
    F24,
    F24.binds (ps := ["_law_source"]) fun _ _ _ _ _ _ us hl => match us, hl with | [_], _ => rfl,
    PySem.W.mg_of X G a24,
    k25,
    F25,
    F25.binds (ps := ["_law_script"]) fun _ _ _ _ _ _ us hl => match us, hl with | [_], _ => rfl,
    PySem.W.mg_of X G a25,
    PySem.W.mg_of X G a_Run,
    ⟨pg_Run, hd_Run, po_Run, sa_Run⟩,
    ⟨mk_Run, a7, i7, kc_Run⟩,
    fun H a dx fs h => .base (.ins h ⟨pg_Run, hd_Run, po_Run, sa_Run⟩ xc_Run xg_Run xt_Run xo_Run),
    xo_Run,
    xn_Run,
    ns_Run,
    kit_self _,
    fun n => kit_of_sub ci_Run tc_Run (by cases n <;> assumption),
    fun n => by cases n <;> assumption,
    na_Run_parts,
    ⟨fun s us ws _ h1 h2 => match us, ws, h1, h2 with | [_], [_, _, _], _, _ => .of_eq rfl, kp_Run_rel⟩⟩, fun s v => .of_eq rfl⟩
end K25
set_option Elab.async false
set_option linter.all false
set_option maxRecDepth 100000
set_option maxHeartbeats 4000000
namespace K25
open PySem PySem.Spec PyProof.Rows L2 Mo
/-! ### what the checks tell -/
def isIntV : V → Bool | .int _ => true | _ => false
def isMarkV : V → Bool | .int i => decide (0 ≤ i) | _ => false
def lets : List Nat := ("abcdefghijklmnopqrstuvwxyz" : Str).cps.toList
def sgns : List Nat := ("abcdefghijklmnopqrstuvwxyz0123456789" : Str).cps.toList
def fixedB (z : Str) : Bool := decide (z = "nothing") || decide (z = "yes")
def nameB (z : Str) : Bool := decide (0 < z.length) && decide (z.length ≤ 8) && !fixedB z && decide (z.cps.toList.headD 0 ∈ lets) && z.cps.toList.all (fun c => decide (c ∈ sgns))
def isNameV : V → Bool | .str z => nameB z | _ => false
def isOperV : V → Bool | .str z => fixedB z || nameB z | _ => false
def isValV : V → Bool | .non => true | .str z => decide (z = "yes") | .int i => decide (0 ≤ i) | _ => false
theorem inV_fixed (z : Str) : inV (.str z) [.str "nothing", .str "yes"] = fixedB z := by
  rw [show [V.str "nothing", V.str "yes"] = (["nothing", "yes"] : List Str).map V.str from rfl, inV_strs]
  unfold fixedB
  rw [Bool.eq_iff_iff]
  simp
/-- a check of a thing: a truth -/
def spTell (f : V → Bool) : Sp := fun vs H Q _ => ∃ (v : V) (n : Ty7), vs = [v] ∧ Th H v n ∧ ∀ H', Same H H' → Q (.bl (f v)) H'
section
variable {P : Program} {w : World} {K : PySem.W.Frag} {mg : Str → Option Value} {base : Heap} {A : Ads}
theorem ok_is_integer (T : Txt K mg A) : FnOk P w K mg base CX0 1 A.a_is_integer A.d_is_integer ["value"] (spTell isIntV) := by
  have nd := sc_is_integer.nd
  refine T.f_is_integer.ok sc_is_integer (fun vs H Q E h => ?_) (fun cdv A' outer s H vs Q E hr h => ?_)
  · obtain ⟨v, n, rfl, _⟩ := h
    rfl
  · obtain ⟨v, n, rfl, th, k⟩ := h
    refine ⟨_, (pss_one (ps_ret (pe_and (pe_callB call_isi (by rfl) T.b_isinstance (by decide +kernel) (pa_cons (pv 0) (pa_cons (pe_ty "int" T.b_int) pa_nil))) (pe_one (pe_not (pe_callB call_isi (by rfl) T.b_isinstance (by decide +kernel) (pa_cons (pv 0) (pa_cons (pe_ty "bool" T.b_bool) pa_nil)))))))), ?_⟩
    have q := k H (Same.refl H)
    refine ⟨_, rfl, v, _, _, _, _, rfl, .ty _, th.ty, kit7 n .int (by decide), _, rfl, ?_⟩
    cases th <;> first | exact iteF q | exact iteT ⟨_, rfl, _, _, _, _, _, rfl, .ty _, (Th.int _).ty, kit7 .int .bl (by decide), _, rfl, q⟩ | exact iteT ⟨_, rfl, _, _, _, _, _, rfl, .ty _, (Th.bl _).ty, kit7 .bl .bl (by decide), _, rfl, q⟩
theorem ok_is_mark (T : Txt K mg A) : FnOk P w K mg base CX0 2 A.a_is_mark A.d_is_mark ["value"] (spTell isMarkV) := by
  have nd := sc_is_mark.nd
  refine T.f_is_mark.ok sc_is_mark (fun vs H Q E h => ?_) (fun cdv A' outer s H vs Q E hr h => ?_)
  · obtain ⟨v, n, rfl, _⟩ := h
    rfl
  · obtain ⟨v, n, rfl, th, k⟩ := h
    refine ⟨_, (pss_one (ps_ret (pe_and (pe_call (ok_is_integer T) (hr.mono (by decide)) (by rfl) T.m_is_integer T.k_is_integer T.v_is_integer .nil pass0 (pa_cons (pv 0) pa_nil)) (pe_one (pe_cmpR op_ge (pv 0) pe_int (nomark _)))))), ?_⟩
    refine ⟨_, rfl, v, n, rfl, th, fun H' e => ⟨_, rfl, ?_⟩⟩
    have q := k H' e
    cases th <;> first | exact iteF q | exact iteT ⟨_, rfl, _, _, rfl, rfl, q⟩
theorem ok_is_name (T : Txt K mg A) : FnOk P w K mg base CX0 1 A.a_is_name A.d_is_name ["value"] (spTell isNameV) := by
  have nd := sc_is_name.nd
  refine T.f_is_name.ok sc_is_name (fun vs H Q E h => ?_) (fun cdv A' outer s H vs Q E hr h => ?_)
  · obtain ⟨v, n, rfl, _⟩ := h
    rfl
  · obtain ⟨v, n, rfl, th, k⟩ := h
    refine ⟨_, (pss_cons (ps_if (PW.pt (pw_or (pt_not (pt_val (pe_callB call_isi (by rfl) T.b_isinstance (by decide +kernel) (pa_cons (pv 0) (pa_cons (pe_ty "str" T.b_str) pa_nil))))) (pw_or (pt_not (pt_chain op_lt op_le pe_int (pe_callB call_len_str (by rfl) T.b_len (by decide +kernel) (pa_cons (pv 0) pa_nil)) (pe_gI T.c_LONGEST))) (pw_or1 (pt_cmpR op_in_seq (pv 0) (pe_tup (pa_cons (pe_gS T.c_NOTHING) (pa_cons (pe_gS T.c_YES) pa_nil))) (by rfl)))))) (pss_one (ps_ret pe_bl)) pss_nil)
      (pss_one (ps_ret (pe_and (pe_cmpR op_in_sign (pe_ix ix_str (pv 0) pe_int (fun _ _ => rfl)) (pe_gS T.c_LETTERS) (by rfl)) (pe_one (pe_callB (cr_all rfl) (by rfl) T.b_all (by decide +kernel) (pa_cons (pe_lc (own := [("sign", 1)]) (g := gName 1) (tt := tYes) rfl nd (pi_str (pv 0)) (blkOk_by (N := nm_is_name) (sc := defScope st_is_name) (by decide +kernel)) (fun _ _ _ _ _ => (pg_name (i := 1) nd rfl (Or.inl rfl))) (fun _ _ _ _ _ => pts_nil) (fun _ _ _ _ _ => (pe_cmpR op_in_sign (pv 1) (pe_gS T.c_SIGNS) (by rfl)))) pa_nil)))))))
      , ?_⟩
    have q := k H (Same.refl H)
    refine ⟨_, rfl, v, _, _, _, _, rfl, .ty _, th.ty, kit7 n .str (by decide), _, rfl, ?_⟩
    cases th with
    | str z hz ha =>
      refine iteF ?_
      have hz2 := len5000 hz
      refine ⟨_, rfl, z, rfl, hz2, _, _, rfl, rfl, _, rfl, ?_⟩
      refine ite2 (fun h0 => ?_) (fun h0 => ?_)
      · have h0 := of_decide_eq_true h0
        refine ⟨_, _, rfl, rfl, _, rfl, ?_⟩
        refine ite2 (fun h1 => ?_) (fun h1 => ?_)
        · have e : nameB z = false := by
            unfold nameB
            have h2 : (8 : Int) < z.length := by simpa using h1
            have : ¬ z.length ≤ 8 := by omega
            simp [this]
          refine iteT ?_
          show Q (.bl false) H
          rw [show isNameV (V.str z) = nameB z from rfl, e] at q
          exact q
        · have h1 : z.length ≤ 8 := by
            have : decide ((z.length : Int) ≤ 8) = true := by simpa using h1
            have := of_decide_eq_true this
            omega
          refine ⟨_, rfl, (by show 2 ≤ sizeLine; decide), fun p hp => ⟨p, _, rfl, Or.inr (SqT.of upd_same), rfl, rfl, _, rfl, ?_⟩⟩
          have q2 := k _ (same_new (o := .tup [.str "nothing", .str "yes"]) hp)
          have fx : inV (.str z) [.str "nothing", .str "yes"] = fixedB z := inV_fixed z
          refine ite2 (fun h2 => ?_) (fun h2 => ?_)
          · have h2 : inV (.str z) [.str "nothing", .str "yes"] = true := h2
            have e : nameB z = false := by
              unfold nameB
              rw [← fx, h2]
              simp
            show Q (.bl false) _
            rw [show isNameV (V.str z) = nameB z from rfl, e] at q2
            exact q2
          · have h2 : ¬ inV (.str z) [.str "nothing", .str "yes"] = true := h2
            have h2 := Bool.eq_false_iff.mpr h2
            rw [fx] at h2
            have hh : ∃ c l, z.cps.toList = c :: l := by
              cases e : z.cps.toList with
              | nil =>
                have : z.length = 0 := by
                  show z.cps.size = 0
                  rw [← Array.length_toList, e]
                  rfl
                omega
              | cons c l => exact ⟨c, l, rfl⟩
            obtain ⟨c, l, ecl⟩ := hh
            refine ⟨_, rfl, z, _, c, rfl, rfl, hz2, atI_nat (j := 0) (by rw [ecl]; rfl), c, _, rfl, rfl, _, rfl, ?_⟩
            have e0 : nameB z = (decide (c ∈ lets) && z.cps.toList.all (fun c => decide (c ∈ sgns))) := by
              unfold nameB
              have hp : 0 < z.length := by omega
              rw [h2, decide_eq_true hp, decide_eq_true h1, ecl]
              simp
            rw [show isNameV (V.str z) = nameB z from rfl, e0] at k q2
            refine ite2 (fun h3 => ?_) (fun h3 => ?_)
            · have h3 : decide (c ∈ lets) = true := h3
              refine ⟨_, rfl, z, rfl, fun D hD => lc_it walk_str (fun i H2 => i ≤ z.cps.size ∧ Same H H2 ∧ H2 D = some (.lst ((z.cps.toList.take i).map fun c => V.bl (decide (c ∈ sgns))))) ⟨Nat.zero_le _, ?_, upd_same⟩ (fun _ _ _ _ => trivial) ?_ ?_⟩
              · exact (same_new hp).trans (same_new hD)
              · rintro i x H1 H2 hi ⟨_, sm, hd⟩ ⟨rfl, c2, hc, rfl⟩
                have hlen : ((z.cps.toList.take i).map fun c => V.bl (decide (c ∈ sgns))).length < sizeLine := by
                  rw [List.length_map, List.length_take]
                  exact lt5000 (Nat.lt_of_le_of_lt (Nat.min_le_left _ _) (Nat.lt_of_lt_of_le hi hz))
                refine ⟨rfl, _, rfl, c2, _, rfl, rfl, _, hd, hlen, hi, ?_, ?_⟩
                · intro b o e
                  have hb : b ≠ D := ne_of_none e ((same_new hp).free hD)
                  rw [upd_ne hb]
                  exact sm b o e
                · rw [upd_same]
                  have hc2 : z.cps.toList[i]? = some c2 := by simpa using hc
                  rw [List.take_add_one, hc2, List.map_append]
                  rfl
              · rintro H2 ⟨_, sm, hd⟩
                refine ⟨D, z.cps.toList.map fun c => decide (c ∈ sgns), rfl, SqL.of ?_, ?_⟩
                · rw [hd]
                  congr 2
                  rw [List.map_map, List.take_of_length_le (by simp)]
                  rfl
                · have := k H2 sm
                  rw [h3, Bool.true_and] at this
                  rw [List.all_map]
                  exact this
            · have h3 : ¬ decide (c ∈ lets) = true := h3
              have h3 := Bool.eq_false_iff.mpr h3
              show Q (.bl false) _
              rw [h3, Bool.false_and] at q2
              exact q2
      · have e : nameB z = false := by
          unfold nameB
          have : ¬ 0 < z.length := by simpa using h0
          simp [this]
        refine ⟨_, rfl, iteT (iteT ?_)⟩
        show Q (.bl false) H
        rw [show isNameV (V.str z) = nameB z from rfl, e] at q
        exact q
    | _ => exact iteT (iteT q)
theorem ok_is_value (T : Txt K mg A) : FnOk P w K mg base CX0 3 A.a_is_value A.d_is_value ["value"] (spTell isValV) := by
  have nd := sc_is_value.nd
  refine T.f_is_value.ok sc_is_value (fun vs H Q E h => ?_) (fun cdv A' outer s H vs Q E hr h => ?_)
  · obtain ⟨v, n, rfl, _⟩ := h
    rfl
  · obtain ⟨v, n, rfl, th, k⟩ := h
    refine ⟨_, (pss_one (ps_ret (pe_or (pe_cmpR op_isN (pv 0) pe_non (nomark _)) (pe_or (pe_and (pe_callB call_isi (by rfl) T.b_isinstance (by decide +kernel) (pa_cons (pv 0) (pa_cons (pe_ty "str" T.b_str) pa_nil))) (pe_one (pe_cmpR op_eq (pv 0) (pe_gS T.c_YES) (nomark _)))) (pe_one (pe_call (ok_is_mark T) (hr.mono (by decide)) (by rfl) T.m_is_mark T.k_is_mark T.v_is_mark .nil pass0 (pa_cons (pv 0) pa_nil))))))), ?_⟩
    have q := k H (Same.refl H)
    refine ⟨_, rfl, rfl, _, rfl, ?_⟩
    have e := th
    cases th with
    | non => exact q
    | str z hz ha =>
      refine ⟨_, rfl, _, _, _, _, _, rfl, .ty _, e.ty, kit7 .str .str (by decide), _, rfl, _, rfl, rfl, _, rfl, ?_⟩
      refine ite2 (fun h2 => ?_) (fun h2 => ?_)
      · have h2 : z = "yes" := by
          have := of_decide_eq_true h2
          injection this
        rw [show isValV (V.str z) = decide (z = "yes") from rfl, decide_eq_true h2] at q
        exact q
      · have h2 : ¬ z = "yes" := fun e => h2 (by subst e; rfl)
        refine ⟨_, rfl, .str z, .str, rfl, .str z hz ha, fun H' sm => ?_⟩
        have q2 := k _ sm
        rw [show isValV (V.str z) = decide (z = "yes") from rfl, decide_eq_false h2] at q2
        exact q2
    | _ =>
      refine ⟨_, rfl, _, _, _, _, _, rfl, .ty _, e.ty, kit7 _ .str (by decide), _, rfl, _, rfl, _, rfl, _, _, rfl, e, fun H' sm => ?_⟩
      exact k _ sm
end
end K25
set_option Elab.async false
set_option linter.all false
set_option maxRecDepth 100000
set_option maxHeartbeats 4000000
namespace K25
open PySem PySem.Spec PyProof.Rows L2 Mo
/-! ### the data -/
/-- nothing, yes, a mark that is not too great -/
def ValV (v : V) : Prop := v = .non ∨ v = .str "yes" ∨ ∃ i : Int, v = .int i ∧ 0 ≤ i ∧ i < 10 ^ 31
theorem ValV.is {v : V} (h : ValV v) : isValV v = true := by
  rcases h with rfl | rfl | ⟨i, rfl, h0, _⟩
  · rfl
  · rfl
  · exact decide_eq_true h0
theorem ValV.th {v : V} (H : Hp) (h : ValV v) : ∃ n, Th H v n := by
  rcases h with rfl | rfl | ⟨i, rfl, _⟩
  · exact ⟨_, .non⟩
  · exact ⟨_, .str _ (by decide) (Asc.by (by decide +kernel))⟩
  · exact ⟨_, .int i⟩
/-- a cell's name: a name of letters and figures -/
def NameS (z : Str) : Prop := nameB z = true ∧ AlnT z ∧ z.length ≤ 8
/-- a move -/
def MoveV (xs : List V) : Prop := xs = [.str "step"] ∨ (∃ k z, (k = "look" ∨ k = "empty") ∧ xs = [.str k, .str z] ∧ NameS z) ∨
  ∃ k z v, (k = "fill" ∨ k = "change" ∨ k = "renew") ∧ xs = [.str k, .str z, v] ∧ NameS z ∧ ((∃ i : Int, v = .int i ∧ 0 ≤ i ∧ i < 10 ^ 31) ∨ (k ≠ "renew" ∧ v = .str "yes"))
def Vals1 (xs : List V) : Prop := xs.length ≤ 100 ∧ ∀ x ∈ xs, ValV x
/-- a tuple of moves at p -/
def MovesAt (H : Hp) (p : Addr) (ms : List (List V)) : Prop := ∃ qs : List Addr, TX H p (qs.map V.ref) ∧ qs.length = ms.length ∧ ∀ (i : Nat) (q : Addr) (m : List V), qs[i]? = some q → ms[i]? = some m → H q = some (.tup m)
def Moves1 (ms : List (List V)) : Prop := ms.length ≤ 200 ∧ ∀ m ∈ ms, MoveV m
theorem MovesAt.same {H H' : Hp} {p : Addr} {ms : List (List V)} (h : MovesAt H p ms) (e : Same H H') : MovesAt H' p ms := by
  obtain ⟨qs, h1, h2, h3⟩ := h
  exact ⟨qs, h1.same e, h2, fun i q m a b => e _ _ (h3 i q m a b)⟩
theorem MoveV.len {xs : List V} (h : MoveV xs) : xs.length ≤ 3 := by
  rcases h with rfl | ⟨k, z, _, rfl, _⟩ | ⟨k, z, v, _, rfl, _⟩ <;> simp
section
variable {P : Program} {w : World} {K : PySem.W.Frag} {mg : Str → Option Value} {base : Heap} {A : Ads}
def spWrong : Sp := fun vs H Q _ => ∃ (p : Addr) (xs : List V), vs = [.ref p, .int (xs.length : Int)] ∧ H p = some (.tup xs) ∧ Vals1 xs ∧ ∀ H', Same H H' → Q (.int (-1)) H'
theorem ok_wrong_value (T : Txt K mg A) : FnOk P w K mg base CX0 4 A.a_wrong_value A.d_wrong_value ["values", "many"] spWrong := by
  have nd := sc_wrong_value.nd
  refine T.f_wrong_value.ok sc_wrong_value (fun vs H Q E h => ?_) (fun cdv A' outer s H vs Q E hr h => ?_)
  · obtain ⟨p, xs, rfl, _⟩ := h
    rfl
  · obtain ⟨p, xs, rfl, hp, hv, k⟩ := h
    refine ⟨_, (pss_cons (ps_if (PW.pt (pw_or (pt_not (pt_val (pe_callB call_isi (by rfl) T.b_isinstance (by decide +kernel) (pa_cons (pv 0) (pa_cons (pe_ty "tuple" T.b_tuple) pa_nil))))) (pw_or1 (pt_cmpR op_ne (pe_callB call_len_seq (by rfl) T.b_len (by decide +kernel) (pa_cons (pv 0) pa_nil)) (pv 1) (nomark _))))) (pss_one (ps_ret pe_non)) pss_nil)
      (pss_cons (ps_for PassesOwn.never rfl (pi_enumT (by rfl) T.b_enumerate (pa_cons (pv 0) pa_nil)) (pg_tup rfl (pgs_cons (pg_name (i := 2) nd rfl (Or.inl rfl)) (pgs_cons (pg_name (i := 3) nd rfl (Or.inl rfl)) pgs_nil))) (pss_one (ps_if (pt_not (pt_val (pe_call (ok_is_value T) (hr.mono (by decide)) (by rfl) T.m_is_value T.k_is_value T.v_is_value .nil pass0 (pa_cons (pv 3) pa_nil)))) (pss_one (ps_ret (pv 2))) pss_nil)))
      (pss_one (ps_ret (pe_un un_neg pe_int))))), ?_⟩
    refine ⟨_, rfl, _, _, _, _, _, rfl, .ty _, (Th.tup hp).ty, kit7 .tup .tup (by decide), _, rfl, ?_⟩
    refine ⟨_, rfl, p, xs, rfl, Or.inr (SqT.of hp), _, rfl, rfl, _, rfl, ?_⟩
    refine iteNS rfl ?_
    refine ⟨_, rfl, p, xs, rfl, SqT.of hp, for_it walk_enumT (fun i σ H2 => Same H H2 ∧ ∃ v1 v2, σ = [some (.ref p), some (.int (xs.length : Int)), v1, v2]) ⟨Same.refl _, _, _, rfl⟩ (fun i σ H2 _ h => SqT.of (h.1 _ _ hp)) ?_ ?_⟩
    · rintro i x σ H1 H2 hi ⟨s1, v1, v2, rfl⟩ ⟨t, y, rfl, ht, rfl, hy⟩
      have hval := hv.2 y (List.mem_of_getElem? hy)
      obtain ⟨n, th⟩ := hval.th (upd H1 t (.tup [.int (i : Nat), y]))
      refine ⟨t, _, rfl, SqT.of upd_same, rfl, _, _, rfl, _, _, rfl, rfl, ?_⟩
      refine ⟨_, rfl, y, n, rfl, th, fun H3 s3 => ⟨_, rfl, ?_⟩⟩
      rw [hval.is]
      refine iteF ?_
      exact ⟨(s1.trans (same_new ht)).trans s3, _, _, rfl⟩
    · rintro σ H2 ⟨s2, v1, v2, rfl⟩
      exact ⟨_, rfl, k H2 s2⟩
def spCheck : Sp := fun vs H Q _ => ∃ (p : Addr) (xs : List V), vs = [.ref p, .int (xs.length : Int)] ∧ H p = some (.tup xs) ∧ Vals1 xs ∧ ∀ H', Same H H' → Q .non H'
theorem ok_check_values (T : Txt K mg A) : FnOk P w K mg base CX0 5 A.a_check_values A.d_check_values ["arguments", "many"] spCheck := by
  have nd := sc_check_values.nd
  refine T.f_check_values.ok sc_check_values (fun vs H Q E h => ?_) (fun cdv A' outer s H vs Q E hr h => ?_)
  · obtain ⟨p, xs, rfl, _⟩ := h
    rfl
  · obtain ⟨p, xs, rfl, hp, hv, k⟩ := h
    refine ⟨_, (pss_cons (ps_set (i := 2) nd rfl (Or.inl rfl) (pe_call (ok_wrong_value T) (hr.mono (by decide)) (by rfl) T.m_wrong_value T.k_wrong_value T.v_wrong_value .nil pass0 (pa_cons (pv 0) (pa_cons (pv 1) pa_nil))))
      (pss_one (ps_if (pt_cmpR op_ne (pv 2) (pe_un un_neg pe_int) (nomark _)) (pss_one ps_never) pss_nil))), ?_⟩
    refine ⟨_, rfl, _, rfl, p, xs, rfl, hp, hv, fun H1 s1 => ?_⟩
    refine ⟨_, rfl, _, rfl, rfl, _, rfl, ?_⟩
    exact iteNS rfl (k H1 s1)
theorem ok_check_store (T : Txt K mg A) : FnOk P w K mg base CX0 5 A.a_check_store A.d_check_store ["store", "many"] spCheck := by
  have nd := sc_check_store.nd
  refine T.f_check_store.ok sc_check_store (fun vs H Q E h => ?_) (fun cdv A' outer s H vs Q E hr h => ?_)
  · obtain ⟨p, xs, rfl, _⟩ := h
    rfl
  · obtain ⟨p, xs, rfl, hp, hv, k⟩ := h
    refine ⟨_, (pss_cons (ps_set (i := 2) nd rfl (Or.inl rfl) (pe_call (ok_wrong_value T) (hr.mono (by decide)) (by rfl) T.m_wrong_value T.k_wrong_value T.v_wrong_value .nil pass0 (pa_cons (pv 0) (pa_cons (pv 1) pa_nil))))
      (pss_one (ps_if (pt_cmpR op_ne (pv 2) (pe_un un_neg pe_int) (nomark _)) (pss_one ps_never) pss_nil))), ?_⟩
    refine ⟨_, rfl, _, rfl, p, xs, rfl, hp, hv, fun H1 s1 => ?_⟩
    refine ⟨_, rfl, _, rfl, rfl, _, rfl, ?_⟩
    exact iteNS rfl (k H1 s1)
def spLen : Sp := fun vs H Q _ => ∃ (p : Addr) (xs : List V), vs = [.ref p] ∧ H p = some (.tup xs) ∧ Q (.int (xs.length : Int)) H
theorem ok_length_of (T : Txt K mg A) : FnOk P w K mg base CX0 1 A.a_length_of A.d_length_of ["value"] spLen := by
  have nd := sc_length_of.nd
  refine T.f_length_of.ok sc_length_of (fun vs H Q E h => ?_) (fun cdv A' outer s H vs Q E hr h => ?_)
  · obtain ⟨p, xs, rfl, _⟩ := h
    rfl
  · obtain ⟨p, xs, rfl, hp, k⟩ := h
    refine ⟨_, (pss_one (ps_ret (pe_ifExp (pt_val (pe_callB call_isi (by rfl) T.b_isinstance (by decide +kernel) (pa_cons (pv 0) (pa_cons (pe_ty "tuple" T.b_tuple) pa_nil)))) (pe_callB call_len_seq (by rfl) T.b_len (by decide +kernel) (pa_cons (pv 0) pa_nil)) pe_int))), ?_⟩
    refine ⟨_, rfl, _, _, _, _, _, rfl, .ty _, (Th.tup hp).ty, kit7 .tup .tup (by decide), _, rfl, ?_⟩
    exact ⟨_, rfl, p, xs, rfl, Or.inr (SqT.of hp), k⟩
def spMove : Sp := fun vs H Q _ => ∃ (p : Addr) (xs : List V), vs = [.ref p] ∧ H p = some (.tup xs) ∧ MoveV xs ∧ ∀ H', Same H H' → Q (.bl true) H'
theorem ok_is_move (T : Txt K mg A) : FnOk P w K mg base CX0 4 A.a_is_move A.d_is_move ["value"] spMove := by
  have nd := sc_is_move.nd
  refine T.f_is_move.ok sc_is_move (fun vs H Q E h => ?_) (fun cdv A' outer s H vs Q E hr h => ?_)
  · obtain ⟨p, xs, rfl, _⟩ := h
    rfl
  · obtain ⟨p, xs, rfl, hp, hm, k⟩ := h
    have hq : SqT K H p xs := SqT.of hp
    rcases hm with rfl | ⟨kd, z, hk, rfl, hn⟩ | ⟨kd, z, v, hk, rfl, hn, hv⟩
    · refine ⟨_, (pss_cons (ps_if (PW.pt (pw_or (pt_not (pt_val (pe_callB call_isi (by rfl) T.b_isinstance (by decide +kernel) (pa_cons (pv 0) (pa_cons (pe_ty "tuple" T.b_tuple) pa_nil))))) (pw_or (pt_cmpR op_eq (pe_callB call_len_seq (by rfl) T.b_len (by decide +kernel) (pa_cons (pv 0) pa_nil)) pe_int (nomark _)) (pw_or1 (pt_not (pt_val (pe_callB call_isi (by rfl) T.b_isinstance (by decide +kernel) (pa_cons (pe_ix ix_tup (pv 0) pe_int (fun _ _ => rfl)) (pa_cons (pe_ty "str" T.b_str) pa_nil))))))))) (pss_one (ps_ret pe_bl)) pss_nil)
      (pss_cons (ps_if (pt_cmpR op_eq (pe_ix ix_tup (pv 0) pe_int (fun _ _ => rfl)) pe_str (nomark _)) (pss_one (ps_ret (pe_cmpR op_eq (pe_callB call_len_seq (by rfl) T.b_len (by decide +kernel) (pa_cons (pv 0) pa_nil)) pe_int (nomark _)))) pss_nil)
      (pss_cons (ps_if (pt_cmpR op_in_seq (pe_ix ix_tup (pv 0) pe_int (fun _ _ => rfl)) (pe_gR T.c_LEAVING) (by rfl)) (pss_one (ps_ret (pe_and (pe_cmpR op_eq (pe_callB call_len_seq (by rfl) T.b_len (by decide +kernel) (pa_cons (pv 0) pa_nil)) pe_int (nomark _)) (pe_one (pe_call (ok_is_name T) (hr.mono (by decide)) (by rfl) T.m_is_name T.k_is_name T.v_is_name .nil pass0 (pa_cons (pe_ix ix_tup (pv 0) pe_int (fun _ _ => rfl)) pa_nil)))))) pss_nil)
      (pss_cons (ps_if (PW.pt (pw_or (PW.pt (pw_and (pt_cmpR op_notIn_seq (pe_ix ix_tup (pv 0) pe_int (fun _ _ => rfl)) (pe_gR T.c_BRINGING) (by rfl)) (pw_and1 (pt_cmpR op_ne (pe_ix ix_tup (pv 0) pe_int (fun _ _ => rfl)) pe_str (nomark _))))) (pw_or (pt_cmpR op_ne (pe_callB call_len_seq (by rfl) T.b_len (by decide +kernel) (pa_cons (pv 0) pa_nil)) pe_int (nomark _)) (pw_or1 (pt_not (pt_val (pe_call (ok_is_name T) (hr.mono (by decide)) (by rfl) T.m_is_name T.k_is_name T.v_is_name .nil pass0 (pa_cons (pe_ix ix_tup (pv 0) pe_int (fun _ _ => rfl)) pa_nil)))))))) (pss_one (ps_ret pe_bl)) pss_nil)
      (pss_one (ps_ret (pe_or (pe_call (ok_is_mark T) (hr.mono (by decide)) (by rfl) T.m_is_mark T.k_is_mark T.v_is_mark .nil pass0 (pa_cons (pe_ix ix_tup (pv 0) pe_int (fun _ _ => rfl)) pa_nil)) (pe_one (pe_and (pe_cmpR op_ne (pe_ix ix_tup (pv 0) pe_int (fun _ _ => rfl)) pe_str (nomark _)) (pe_and (pe_cmpR op_notN (pe_ix ix_tup (pv 0) pe_int (fun _ _ => rfl)) pe_non (nomark _)) (pe_one (pe_call (ok_is_value T) (hr.mono (by decide)) (by rfl) T.m_is_value T.k_is_value T.v_is_value .nil pass0 (pa_cons (pe_ix ix_tup (pv 0) pe_int (fun _ _ => rfl)) pa_nil))))))))))))), ?_⟩
      refine ⟨_, rfl, _, _, _, _, _, rfl, .ty _, (Th.tup hp).ty, kit7 .tup .tup (by decide), _, rfl, ?_⟩
      refine ⟨_, rfl, p, _, rfl, Or.inr hq, rfl, _, rfl, ?_⟩
      refine ⟨_, rfl, p, _, _, _, rfl, rfl, hq, atI_nat (j := 0) rfl, _, _, _, _, _, rfl, .ty _, (Th.str (H := H) "step" (by decide) (Asc.by (by decide +kernel))).ty, kit7 .str .str (by decide), _, rfl, ?_⟩
      refine ⟨_, rfl, p, _, _, _, rfl, rfl, hq, atI_nat (j := 0) rfl, rfl, _, rfl, ?_⟩
      exact ⟨_, rfl, p, _, rfl, Or.inr hq, rfl, k H (Same.refl H)⟩
    · have hk2 : (∃ h5 : (Str.ofString kd).length ≤ 5000, Asc (Str.ofString kd)) ∧ decide (V.str (Str.ofString kd) = V.str "step") = false ∧ inV (.str (Str.ofString kd)) [.str "look", .str "empty"] = true := by
        rcases hk with rfl | rfl
        · exact ⟨⟨by decide, Asc.by (by decide +kernel)⟩, by decide +kernel, by decide +kernel⟩
        · exact ⟨⟨by decide, Asc.by (by decide +kernel)⟩, by decide +kernel, by decide +kernel⟩
      obtain ⟨⟨h5, h6⟩, h7, h8⟩ := hk2
      refine ⟨_, (pss_cons (ps_if (PW.pt (pw_or (pt_not (pt_val (pe_callB call_isi (by rfl) T.b_isinstance (by decide +kernel) (pa_cons (pv 0) (pa_cons (pe_ty "tuple" T.b_tuple) pa_nil))))) (pw_or (pt_cmpR op_eq (pe_callB call_len_seq (by rfl) T.b_len (by decide +kernel) (pa_cons (pv 0) pa_nil)) pe_int (nomark _)) (pw_or1 (pt_not (pt_val (pe_callB call_isi (by rfl) T.b_isinstance (by decide +kernel) (pa_cons (pe_ix ix_tup (pv 0) pe_int (fun _ _ => rfl)) (pa_cons (pe_ty "str" T.b_str) pa_nil))))))))) (pss_one (ps_ret pe_bl)) pss_nil)
      (pss_cons (ps_if (pt_cmpR op_eq (pe_ix ix_tup (pv 0) pe_int (fun _ _ => rfl)) pe_str (nomark _)) (pss_one (ps_ret (pe_cmpR op_eq (pe_callB call_len_seq (by rfl) T.b_len (by decide +kernel) (pa_cons (pv 0) pa_nil)) pe_int (nomark _)))) pss_nil)
      (pss_cons (ps_if (pt_cmpR op_in_seq (pe_ix ix_tup (pv 0) pe_int (fun _ _ => rfl)) (pe_gR T.c_LEAVING) (by rfl)) (pss_one (ps_ret (pe_and (pe_cmpR op_eq (pe_callB call_len_seq (by rfl) T.b_len (by decide +kernel) (pa_cons (pv 0) pa_nil)) pe_int (nomark _)) (pe_one (pe_call (ok_is_name T) (hr.mono (by decide)) (by rfl) T.m_is_name T.k_is_name T.v_is_name .nil pass0 (pa_cons (pe_ix ix_tup (pv 0) pe_int (fun _ _ => rfl)) pa_nil)))))) pss_nil)
      (pss_cons (ps_if (PW.pt (pw_or (PW.pt (pw_and (pt_cmpR op_notIn_seq (pe_ix ix_tup (pv 0) pe_int (fun _ _ => rfl)) (pe_gR T.c_BRINGING) (by rfl)) (pw_and1 (pt_cmpR op_ne (pe_ix ix_tup (pv 0) pe_int (fun _ _ => rfl)) pe_str (nomark _))))) (pw_or (pt_cmpR op_ne (pe_callB call_len_seq (by rfl) T.b_len (by decide +kernel) (pa_cons (pv 0) pa_nil)) pe_int (nomark _)) (pw_or1 (pt_not (pt_val (pe_call (ok_is_name T) (hr.mono (by decide)) (by rfl) T.m_is_name T.k_is_name T.v_is_name .nil pass0 (pa_cons (pe_ix ix_tup (pv 0) pe_int (fun _ _ => rfl)) pa_nil)))))))) (pss_one (ps_ret pe_bl)) pss_nil)
      (pss_one (ps_ret (pe_or (pe_call (ok_is_mark T) (hr.mono (by decide)) (by rfl) T.m_is_mark T.k_is_mark T.v_is_mark .nil pass0 (pa_cons (pe_ix ix_tup (pv 0) pe_int (fun _ _ => rfl)) pa_nil)) (pe_one (pe_and (pe_cmpR op_ne (pe_ix ix_tup (pv 0) pe_int (fun _ _ => rfl)) pe_str (nomark _)) (pe_and (pe_cmpR op_notN (pe_ix ix_tup (pv 0) pe_int (fun _ _ => rfl)) pe_non (nomark _)) (pe_one (pe_call (ok_is_value T) (hr.mono (by decide)) (by rfl) T.m_is_value T.k_is_value T.v_is_value .nil pass0 (pa_cons (pe_ix ix_tup (pv 0) pe_int (fun _ _ => rfl)) pa_nil))))))))))))), ?_⟩
      refine ⟨_, rfl, _, _, _, _, _, rfl, .ty _, (Th.tup hp).ty, kit7 .tup .tup (by decide), _, rfl, ?_⟩
      refine ⟨_, rfl, p, _, rfl, Or.inr hq, rfl, _, rfl, ?_⟩
      refine ⟨_, rfl, p, _, _, _, rfl, rfl, hq, atI_nat (j := 0) rfl, _, _, _, _, _, rfl, .ty _, (Th.str (H := H) _ h5 h6).ty, kit7 .str .str (by decide), _, rfl, ?_⟩
      refine ⟨_, rfl, p, _, _, _, rfl, rfl, hq, atI_nat (j := 0) rfl, rfl, _, rfl, ?_⟩
      rw [h7]
      refine iteF ?_
      refine ⟨_, rfl, p, _, _, _, rfl, rfl, hq, atI_nat (j := 0) rfl, A.u_LEAVING, _, rfl, Or.inr (T.s_LEAVING H), rfl, rfl, _, rfl, ?_⟩
      refine (if_pos h8).mpr ?_
      refine ⟨_, rfl, p, _, rfl, Or.inr hq, rfl, _, rfl, ?_⟩
      refine ⟨_, rfl, p, _, _, _, rfl, rfl, hq, atI_nat (j := 1) rfl, .str z, .str, rfl, .str z (by have := hn.2.2; omega) (fun c hc => aln_lt (hn.2.1 c hc)), fun H' e => ?_⟩
      have q := k H' e
      rw [← show isNameV (.str z) = true from hn.1] at q
      exact q
    · have hk2 : (∃ h5 : (Str.ofString kd).length ≤ 5000, Asc (Str.ofString kd)) ∧ decide (V.str (Str.ofString kd) = V.str "step") = false ∧ inV (.str (Str.ofString kd)) [.str "look", .str "empty"] = false ∧
          ((inV (.str (Str.ofString kd)) [.str "fill", .str "change"] = true ∧ decide (V.str (Str.ofString kd) = V.str "renew") = false) ∨ (inV (.str (Str.ofString kd)) [.str "fill", .str "change"] = false ∧ kd = "renew")) := by
        rcases hk with rfl | rfl | rfl
        · exact ⟨⟨by decide, Asc.by (by decide +kernel)⟩, by decide +kernel, by decide +kernel, .inl ⟨by decide +kernel, by decide +kernel⟩⟩
        · exact ⟨⟨by decide, Asc.by (by decide +kernel)⟩, by decide +kernel, by decide +kernel, .inl ⟨by decide +kernel, by decide +kernel⟩⟩
        · exact ⟨⟨by decide, Asc.by (by decide +kernel)⟩, by decide +kernel, by decide +kernel, .inr ⟨by decide +kernel, rfl⟩⟩
      obtain ⟨⟨h5, h6⟩, h7, h8, h9⟩ := hk2
      -- behind the tests
      have tail : ∃ t, PSs (cxOf CX0 P w K mg base nm_is_move "is_move" (defScope st_is_move) A.a_is_move cdv A' outer s H E).nox ((defBody st_is_move).drop 4) t ∧
          ∀ H1, Same H H1 → t { nx := fun _ H' => Q .non H', rt := Q } [some (.ref p)] H1 := by
        refine ⟨_, (pss_one (ps_ret (pe_or (pe_call (ok_is_mark T) (hr.mono (by decide)) (by rfl) T.m_is_mark T.k_is_mark T.v_is_mark .nil pass0 (pa_cons (pe_ix ix_tup (pv 0) pe_int (fun _ _ => rfl)) pa_nil)) (pe_one (pe_and (pe_cmpR op_ne (pe_ix ix_tup (pv 0) pe_int (fun _ _ => rfl)) pe_str (nomark _)) (pe_and (pe_cmpR op_notN (pe_ix ix_tup (pv 0) pe_int (fun _ _ => rfl)) pe_non (nomark _)) (pe_one (pe_call (ok_is_value T) (hr.mono (by decide)) (by rfl) T.m_is_value T.k_is_value T.v_is_value .nil pass0 (pa_cons (pe_ix ix_tup (pv 0) pe_int (fun _ _ => rfl)) pa_nil))))))))), fun H1 s1 => ?_⟩
        have hq1 : SqT K H1 p [.str (Str.ofString kd), .str z, v] := SqT.of (s1 _ _ hp)
        rcases hv with ⟨i, rfl, i0, _⟩ | ⟨hne, rfl⟩
        · refine ⟨_, rfl, p, _, _, _, rfl, rfl, hq1, atI_nat (j := 2) rfl, _, _, rfl, .int i, fun H2 s2 => ⟨_, rfl, ?_⟩⟩
          have e : isMarkV (.int i) = true := decide_eq_true i0
          rw [e]
          exact iteT (k H2 (s1.trans s2))
        · have e9 : decide (V.str (Str.ofString kd) = V.str "renew") = false := by
            rcases h9 with h9 | h9
            · exact h9.2
            · exact absurd h9.2 hne
          have ty : ∀ H : Hp, Th H (.str "yes") .str := fun H => .str _ (by decide) (Asc.by (by decide +kernel))
          refine ⟨_, rfl, p, _, _, _, rfl, rfl, hq1, atI_nat (j := 2) rfl, _, _, rfl, ty _, fun H2 s2 => ⟨_, rfl, ?_⟩⟩
          have hq2 : SqT K H2 p [.str (Str.ofString kd), .str z, .str "yes"] := SqT.of (s2 _ _ (s1 _ _ hp))
          refine ⟨_, rfl, p, _, _, _, rfl, rfl, hq2, atI_nat (j := 0) rfl, rfl, _, rfl, ?_⟩
          rw [e9]
          refine ⟨_, rfl, p, _, _, _, rfl, rfl, hq2, atI_nat (j := 2) rfl, rfl, _, rfl, ?_⟩
          exact ⟨_, rfl, p, _, _, _, rfl, rfl, hq2, atI_nat (j := 2) rfl, _, _, rfl, ty _, fun H3 s3 => k H3 ((s1.trans s2).trans s3)⟩
      obtain ⟨t4, D4, rest4⟩ := tail
      have thz : Th H (.str z) .str := .str z (by have := hn.2.2; omega) (fun c hc => aln_lt (hn.2.1 c hc))
      refine ⟨_, (pss_cons (ps_if (PW.pt (pw_or (pt_not (pt_val (pe_callB call_isi (by rfl) T.b_isinstance (by decide +kernel) (pa_cons (pv 0) (pa_cons (pe_ty "tuple" T.b_tuple) pa_nil))))) (pw_or (pt_cmpR op_eq (pe_callB call_len_seq (by rfl) T.b_len (by decide +kernel) (pa_cons (pv 0) pa_nil)) pe_int (nomark _)) (pw_or1 (pt_not (pt_val (pe_callB call_isi (by rfl) T.b_isinstance (by decide +kernel) (pa_cons (pe_ix ix_tup (pv 0) pe_int (fun _ _ => rfl)) (pa_cons (pe_ty "str" T.b_str) pa_nil))))))))) (pss_one (ps_ret pe_bl)) pss_nil)
      (pss_cons (ps_if (pt_cmpR op_eq (pe_ix ix_tup (pv 0) pe_int (fun _ _ => rfl)) pe_str (nomark _)) (pss_one (ps_ret (pe_cmpR op_eq (pe_callB call_len_seq (by rfl) T.b_len (by decide +kernel) (pa_cons (pv 0) pa_nil)) pe_int (nomark _)))) pss_nil)
      (pss_cons (ps_if (pt_cmpR op_in_seq (pe_ix ix_tup (pv 0) pe_int (fun _ _ => rfl)) (pe_gR T.c_LEAVING) (by rfl)) (pss_one (ps_ret (pe_and (pe_cmpR op_eq (pe_callB call_len_seq (by rfl) T.b_len (by decide +kernel) (pa_cons (pv 0) pa_nil)) pe_int (nomark _)) (pe_one (pe_call (ok_is_name T) (hr.mono (by decide)) (by rfl) T.m_is_name T.k_is_name T.v_is_name .nil pass0 (pa_cons (pe_ix ix_tup (pv 0) pe_int (fun _ _ => rfl)) pa_nil)))))) pss_nil)
      (pss_cons (ps_if (PW.pt (pw_or (PW.pt (pw_and (pt_cmpR op_notIn_seq (pe_ix ix_tup (pv 0) pe_int (fun _ _ => rfl)) (pe_gR T.c_BRINGING) (by rfl)) (pw_and1 (pt_cmpR op_ne (pe_ix ix_tup (pv 0) pe_int (fun _ _ => rfl)) pe_str (nomark _))))) (pw_or (pt_cmpR op_ne (pe_callB call_len_seq (by rfl) T.b_len (by decide +kernel) (pa_cons (pv 0) pa_nil)) pe_int (nomark _)) (pw_or1 (pt_not (pt_val (pe_call (ok_is_name T) (hr.mono (by decide)) (by rfl) T.m_is_name T.k_is_name T.v_is_name .nil pass0 (pa_cons (pe_ix ix_tup (pv 0) pe_int (fun _ _ => rfl)) pa_nil)))))))) (pss_one (ps_ret pe_bl)) pss_nil)
      D4)))), ?_⟩
      refine ⟨_, rfl, _, _, _, _, _, rfl, .ty _, (Th.tup hp).ty, kit7 .tup .tup (by decide), _, rfl, ?_⟩
      refine ⟨_, rfl, p, _, rfl, Or.inr hq, rfl, _, rfl, ?_⟩
      refine ⟨_, rfl, p, _, _, _, rfl, rfl, hq, atI_nat (j := 0) rfl, _, _, _, _, _, rfl, .ty _, (Th.str (H := H) _ h5 h6).ty, kit7 .str .str (by decide), _, rfl, ?_⟩
      refine ⟨_, rfl, p, _, _, _, rfl, rfl, hq, atI_nat (j := 0) rfl, rfl, _, rfl, ?_⟩
      rw [h7]
      refine iteF ?_
      refine ⟨_, rfl, p, _, _, _, rfl, rfl, hq, atI_nat (j := 0) rfl, A.u_LEAVING, _, rfl, Or.inr (T.s_LEAVING H), rfl, rfl, _, rfl, ?_⟩
      refine (if_neg (Bool.eq_false_iff.mp h8)).mpr ?_
      refine ⟨_, rfl, p, _, _, _, rfl, rfl, hq, atI_nat (j := 0) rfl, A.u_BRINGING, _, rfl, Or.inr (T.s_BRINGING H), rfl, rfl, _, rfl, ?_⟩
      rcases h9 with ⟨h9, _⟩ | ⟨h9, rfl⟩
      · refine (if_neg (show ¬ (if true = true then !inV (.str (Str.ofString kd)) [.str "fill", .str "change"] else inV (.str (Str.ofString kd)) [.str "fill", .str "change"]) = true by rw [h9]; decide)).mpr ?_
        refine ⟨_, rfl, p, _, rfl, Or.inr hq, rfl, _, rfl, ?_⟩
        refine ⟨_, rfl, p, _, _, _, rfl, rfl, hq, atI_nat (j := 1) rfl, .str z, .str, rfl, thz, fun H1 s1 => ⟨_, rfl, ?_⟩⟩
        rw [show isNameV (.str z) = true from hn.1]
        exact rest4 H1 s1
      · refine (if_pos (show (if true = true then !inV (.str (Str.ofString "renew")) [.str "fill", .str "change"] else inV (.str (Str.ofString "renew")) [.str "fill", .str "change"]) = true by rw [h9]; decide)).mpr ?_
        refine ⟨_, rfl, p, _, _, _, rfl, rfl, hq, atI_nat (j := 0) rfl, rfl, _, rfl, ?_⟩
        refine ⟨_, rfl, p, _, rfl, Or.inr hq, rfl, _, rfl, ?_⟩
        refine ⟨_, rfl, p, _, _, _, rfl, rfl, hq, atI_nat (j := 1) rfl, .str z, .str, rfl, thz, fun H1 s1 => ⟨_, rfl, ?_⟩⟩
        rw [show isNameV (.str z) = true from hn.1]
        exact rest4 H1 s1
def spMoves : Sp := fun vs H Q _ => ∃ (p : Addr) (ms : List (List V)), vs = [.ref p] ∧ MovesAt H p ms ∧ Moves1 ms ∧ ∀ H', Same H H' → Q .non H'
theorem ok_check_moves (T : Txt K mg A) : FnOk P w K mg base CX0 5 A.a_check_moves A.d_check_moves ["moves"] spMoves := by
  have nd := sc_check_moves.nd
  refine T.f_check_moves.ok sc_check_moves (fun vs H Q E h => ?_) (fun cdv A' outer s H vs Q E hr h => ?_)
  · obtain ⟨p, xs, rfl, _⟩ := h
    rfl
  · obtain ⟨p, ms, rfl, ⟨qs, hp, hl, hq⟩, hm, k⟩ := h
    refine ⟨_, (pss_cons (ps_if (pt_not (pt_val (pe_callB call_isi (by rfl) T.b_isinstance (by decide +kernel) (pa_cons (pv 0) (pa_cons (pe_ty "tuple" T.b_tuple) pa_nil))))) (pss_one ps_never) pss_nil)
      (pss_one (ps_for PassesOwn.never rfl (pi_enumT (by rfl) T.b_enumerate (pa_cons (pv 0) pa_nil)) (pg_tup rfl (pgs_cons (pg_name (i := 1) nd rfl (Or.inl rfl)) (pgs_cons (pg_name (i := 2) nd rfl (Or.inl rfl)) pgs_nil))) (pss_one (ps_if (pt_not (pt_val (pe_call (ok_is_move T) (hr.mono (by decide)) (by rfl) T.m_is_move T.k_is_move T.v_is_move .nil pass0 (pa_cons (pv 2) pa_nil)))) (pss_one ps_never) pss_nil))))), ?_⟩
    refine ⟨_, rfl, _, _, _, _, _, rfl, .ty _, hp.ty, kit7 .tup .tup (by decide), _, rfl, ?_⟩
    refine ⟨_, rfl, p, _, rfl, hp.sq, for_it walk_enumT (fun i σ H2 => Same H H2 ∧ ∃ v1 v2, σ = [some (.ref p), v1, v2]) ⟨Same.refl _, _, _, rfl⟩ (fun i σ H2 _ h => (hp.same h.1).sq) ?_ ?_⟩
    · rintro i x σ H1 H2 hi ⟨s1, v1, v2, rfl⟩ ⟨t, y, rfl, ht, rfl, hy⟩
      rw [List.getElem?_map] at hy
      obtain ⟨q, hq1, rfl⟩ := Option.map_eq_some_iff.mp hy
      have him : i < ms.length := by
        rw [← hl]
        exact (List.getElem?_eq_some_iff.mp hq1).1
      have hm1 : ms[i]? = some ms[i] := by simp [him]
      have hqm := hq i q ms[i] hq1 hm1
      have sx := s1.trans (same_new (o := .tup [.int (i : Nat), .ref q]) ht)
      refine ⟨t, _, rfl, SqT.of upd_same, rfl, _, _, rfl, _, _, rfl, rfl, ?_⟩
      refine ⟨_, rfl, q, ms[i], rfl, sx _ _ hqm, hm.2 _ (List.getElem_mem him), fun H3 s3 => ⟨_, rfl, ?_⟩⟩
      exact ⟨sx.trans s3, _, _, rfl⟩
    · rintro σ H2 ⟨s2, v1, v2, rfl⟩
      exact k H2 s2
/-! ### runs -/
/-- a run at a: its parts -/
def RunAt (A : Ads) (H : Hp) (a : Addr) (g f : List V) (ms : List (List V)) : Prop := ∃ dx pt pg pf pm, H a = some (.ins A.c_Run dx [("parts", .ref pt)]) ∧ H pt = some (.tup [.ref pg, .ref pf, .ref pm]) ∧ H pg = some (.tup g) ∧ H pf = some (.tup f) ∧ MovesAt H pm ms
theorem RunAt.same {H H' : Hp} {a : Addr} {g f : List V} {ms : List (List V)} (h : RunAt A H a g f ms) (e : Same H H') : RunAt A H' a g f ms := by
  obtain ⟨dx, pt, pg, pf, pm, h1, h2, h3, h4, h5⟩ := h
  exact ⟨dx, pt, pg, pf, pm, e _ _ h1, e _ _ h2, e _ _ h3, e _ _ h4, h5.same e⟩
def spInit (A : Ads) : Sp := fun vs H Q _ => ∃ (a dx pg pf pm : Addr) (g f : List V) (ms : List (List V)), vs = [.ref a, .ref pg, .ref pf, .ref pm] ∧ H a = some (.ins A.c_Run dx []) ∧ H pg = some (.tup g) ∧ H pf = some (.tup f) ∧ MovesAt H pm ms ∧ Vals1 g ∧ Vals1 f ∧ Moves1 ms ∧
  ∀ H', RunAt A H' a g f ms → KeepBut a H H' → Q .non H'
theorem ok_Run___init__ (T : Txt K mg A) : FnOk P w K mg base CX0 6 A.a_Run___init__ A.d_Run___init__ ["self", "arguments", "store", "moves"] (spInit A) := by
  have nd := sc_Run___init__.nd
  refine T.f_Run___init__.ok sc_Run___init__ (fun vs H Q E h => ?_) (fun cdv A' outer s H vs Q E hr h => ?_)
  · obtain ⟨a, dx, pg, pf, pm, g, f, ms, rfl, _⟩ := h
    rfl
  · obtain ⟨a, dx, pg, pf, pm, g, f, ms, rfl, ha, hg, hf, hm, vg, vf, vm, k⟩ := h
    refine ⟨_, (pss_cons (ps_expr (pe_call (ok_check_values T) (hr.mono (by decide)) (by rfl) T.m_check_values T.k_check_values T.v_check_values .nil pass0 (pa_cons (pv 1) (pa_cons (pe_call (ok_length_of T) (hr.mono (by decide)) (by rfl) T.m_length_of T.k_length_of T.v_length_of .nil pass0 (pa_cons (pv 1) pa_nil)) pa_nil))))
      (pss_cons (ps_expr (pe_call (ok_check_store T) (hr.mono (by decide)) (by rfl) T.m_check_store T.k_check_store T.v_check_store .nil pass0 (pa_cons (pv 2) (pa_cons (pe_call (ok_length_of T) (hr.mono (by decide)) (by rfl) T.m_length_of T.k_length_of T.v_length_of .nil pass0 (pa_cons (pv 2) pa_nil)) pa_nil))))
      (pss_cons (ps_expr (pe_call (ok_check_moves T) (hr.mono (by decide)) (by rfl) T.m_check_moves T.k_check_moves T.v_check_moves .nil pass0 (pa_cons (pv 3) pa_nil)))
      (pss_one (ps_fld (pv 0) (pe_tup (pa_cons (pv 1) (pa_cons (pv 2) (pa_cons (pv 3) pa_nil)))) rfl))))), ?_⟩
    refine ⟨_, rfl, _, rfl, pg, g, rfl, hg, pg, g, rfl, hg, vg, fun H1 s1 => ?_⟩
    refine ⟨_, rfl, _, rfl, pf, f, rfl, s1 _ _ hf, pf, f, rfl, s1 _ _ hf, vf, fun H2 s2 => ?_⟩
    have s12 := s1.trans s2
    refine ⟨_, rfl, pm, ms, rfl, hm.same s12, vm, fun H3 s3 => ?_⟩
    have s13 := s12.trans s3
    refine ⟨_, rfl, _, rfl, _, rfl, (by show 3 ≤ sizeLine; decide), fun p hp => ?_⟩
    have hpa : a ≠ p := ne_of_none (s13 _ _ ha) hp
    have s4 := s13.trans (same_new (o := .tup [.ref pg, .ref pf, .ref pm]) hp)
    refine ⟨_, rfl, a, _, dx, [], rfl, s4 _ _ ha, T.cl_Run, T.na_Run_parts, (by show 0 < 1000; decide), ?_⟩
    have kb : KeepBut a H (upd (upd H3 p (.tup [.ref pg, .ref pf, .ref pm])) a (.ins A.c_Run dx (putF "parts" (.ref p) []))) := (KeepBut.of_same s4).trans (KeepBut.upd _ _ _)
    have nt : ∀ {q : Addr} {xs : List V}, H q = some (.tup xs) → q ≠ a := fun h => ne_of h ha (by intro z; cases z)
    obtain ⟨qs, hm1, hm2, hm3⟩ := hm
    have ntx : pm ≠ a := by
      obtain ⟨ob, _, h⟩ := hm1
      exact ne_of h ha (by intro z; cases z)
    refine k _ ⟨dx, p, pg, pf, pm, upd_same, ?_, kb _ _ (nt hg) hg, kb _ _ (nt hf) hf, qs, hm1.keep ntx kb, hm2, fun i q m a1 a2 => kb _ _ (nt (hm3 i q m a1 a2)) (hm3 i q m a1 a2)⟩ kb
    rw [upd_ne hpa.symm, upd_same]
end
end K25
set_option Elab.async false
set_option linter.all false
set_option maxRecDepth 100000
set_option maxHeartbeats 4000000
namespace K25
open PySem PySem.Spec PyProof.Rows L2 Mo
/-! ### rows as data -/
def fD : V → PyData
  | .non => .none
  | .bl b => .bool b
  | .int i => .int i
  | .str z => .str z
  | _ => .none
abbrev tD (xs : List V) : PyData := .tuple (xs.map fD)
abbrev mD (ms : List (List V)) : PyData := .tuple (ms.map tD)
structure Row where
  g : List V
  f : List V
  ms : List (List V)
structure Row.Ok (r : Row) : Prop where
  g : Vals1 r.g
  f : Vals1 r.f
  ms : Moves1 r.ms
abbrev Row.pD (r : Row) : PyData := .tuple [tD r.g, tD r.f, mD r.ms]
abbrev Row.lD (r : Row) : PyData := .list [tD r.g, tD r.f, mD r.ms]
def stepD : PyData := .tuple [.str "step"]
def stepsN (ms : List (List V)) : Nat := (ms.map tD).countP fun z => PyData.eqv z stepD
def lineS (n : Nat) : Str := ("Run(" : Str) ++ Str.ofString (toString (n : Int)) ++ " moves)"
/-- what is told of a row -/
abbrev Row.told (r : Row) : PyData := .list [tD r.g, tD r.f, mD r.ms, .int (stepsN r.ms : Nat), .str (lineS r.ms.length)]
theorem log31 {i : Int} (h0 : 0 ≤ i) (h1 : i < 10 ^ 31) : i.natAbs.log2 < 1920 := log_le (k := 110) (by decide) (by omega) (by decide)
theorem asc_aln {z : Str} (h : z.cps.toList.all Aln = true) : AlnT z := fun c hc => List.all_eq_true.mp h c hc
theorem ValV.pl {v : V} (h : ValV v) : Pl (fD v) := by
  rcases h with rfl | rfl | ⟨i, rfl, h0, h1⟩
  · exact trivial
  · exact asc_aln (by decide +kernel)
  · exact ⟨h0, log31 h0 h1⟩
theorem plAll_map {xs : List V} (h : ∀ x ∈ xs, Pl (fD x)) : PlAll (xs.map fD) := by
  induction xs with
  | nil => exact trivial
  | cons x xs ih => exact ⟨h x List.mem_cons_self, ih fun y hy => h y (List.mem_cons_of_mem _ hy)⟩
theorem Vals1.pl {xs : List V} (h : Vals1 xs) : Pl (tD xs) := plAll_map fun x hx => (h.2 x hx).pl
theorem MoveV.pl {xs : List V} (h : MoveV xs) : Pl (tD xs) := by
  refine plAll_map fun x hx => ?_
  rcases h with rfl | ⟨k, z, hk, rfl, hn⟩ | ⟨k, z, v, hk, rfl, hn, hv⟩
  · rw [List.mem_singleton.mp hx]
    exact asc_aln (by decide +kernel)
  · rcases List.mem_cons.mp hx with rfl | hx
    · rcases hk with rfl | rfl <;> exact asc_aln (by decide +kernel)
    · rw [List.mem_singleton.mp hx]
      exact hn.2.1
  · rcases List.mem_cons.mp hx with rfl | hx
    · rcases hk with rfl | rfl | rfl <;> exact asc_aln (by decide +kernel)
    · rcases List.mem_cons.mp hx with rfl | hx
      · exact hn.2.1
      · rw [List.mem_singleton.mp hx]
        rcases hv with ⟨i, rfl, h0, h1⟩ | ⟨_, rfl⟩
        · exact ⟨h0, log31 h0 h1⟩
        · exact asc_aln (by decide +kernel)
theorem plAll_tD {ms : List (List V)} (h : ∀ m ∈ ms, MoveV m) : PlAll (ms.map tD) := by
  induction ms with
  | nil => exact trivial
  | cons m ms ih => exact ⟨(h m List.mem_cons_self).pl, ih fun y hy => h y (List.mem_cons_of_mem _ hy)⟩
theorem Moves1.pl {ms : List (List V)} (h : Moves1 ms) : Pl (mD ms) := plAll_tD h.2
theorem Row.Ok.plP {r : Row} (h : r.Ok) : Pl r.pD := ⟨h.g.pl, h.f.pl, h.ms.pl, trivial⟩
theorem Row.Ok.plL {r : Row} (h : r.Ok) : Pl r.lD := ⟨h.g.pl, h.f.pl, h.ms.pl, trivial⟩
theorem fig_aln {c : Nat} (h : isFig c = true) : Aln c = true := by
  unfold isFig at h
  unfold Aln
  simp only [Bool.and_eq_true, decide_eq_true_eq] at h ⊢
  omega
theorem line_aln (n : Nat) : AlnT (lineS n) := by
  intro c hc
  unfold lineS cp at hc
  rw [cps_app, cps_app] at hc
  rcases List.mem_append.mp hc with hc | hc
  · rcases List.mem_append.mp hc with hc | hc
    · exact asc_aln (z := "Run(") (by decide +kernel) c hc
    · exact fig_aln (num_figs n c hc)
  · exact asc_aln (z := " moves)") (by decide +kernel) c hc
theorem stepsN_le (ms : List (List V)) : stepsN ms ≤ ms.length := by
  unfold stepsN
  have := List.countP_le_length (p := fun z => PyData.eqv z stepD) (l := ms.map tD)
  rwa [List.length_map] at this
theorem Row.Ok.plT {r : Row} (h : r.Ok) : Pl r.told := by
  refine ⟨h.g.pl, h.f.pl, h.ms.pl, ⟨by omega, ?_⟩, line_aln _, trivial⟩
  have h1 := stepsN_le r.ms
  have h2 := h.ms.1
  exact log31 (by omega) (by omega)
theorem depth_f (v : V) : (fD v).depth = 0 := by cases v <;> rfl
theorem depth_fs : ∀ xs : List V, PyData.depthAll (xs.map fD) = 0
  | [] => rfl
  | x :: xs => by
    show max (fD x).depth (PyData.depthAll (xs.map fD)) = 0
    rw [depth_f, depth_fs xs]
    rfl
theorem depth_t (xs : List V) : (tD xs).depth = 1 := by
  show PyData.depthAll (xs.map fD) + 1 = 1
  rw [depth_fs]
theorem depth_ts : ∀ ms : List (List V), PyData.depthAll (ms.map tD) ≤ 1
  | [] => Nat.zero_le _
  | m :: ms => by
    show max (tD m).depth (PyData.depthAll (ms.map tD)) ≤ 1
    rw [depth_t]
    exact Nat.max_le.mpr ⟨Nat.le_refl _, depth_ts ms⟩
theorem depth_m (ms : List (List V)) : (mD ms).depth ≤ 2 := Nat.succ_le_succ (depth_ts ms)
theorem depth_three (a b c : PyData) (ha : a.depth ≤ 2) (hb : b.depth ≤ 2) (hc : c.depth ≤ 2) (r : List PyData) (hr : PyData.depthAll r = 0) : PyData.depthAll (a :: b :: c :: r) + 1 ≤ 3 := by
  show max a.depth (max b.depth (max c.depth (PyData.depthAll r))) + 1 ≤ 3
  rw [hr]
  omega
theorem Row.depthP (r : Row) : r.pD.depth ≤ 3 := depth_three _ _ _ (by rw [depth_t]; decide) (by rw [depth_t]; decide) (depth_m _) [] rfl
theorem Row.depthL (r : Row) : r.lD.depth ≤ 3 := depth_three _ _ _ (by rw [depth_t]; decide) (by rw [depth_t]; decide) (depth_m _) [] rfl
theorem Row.depthT (r : Row) : r.told.depth ≤ 3 := depth_three _ _ _ (by rw [depth_t]; decide) (by rw [depth_t]; decide) (depth_m _) _ rfl
theorem Row.Ok.shP {r : Row} (h : r.Ok) : SeqAt.shaped r.pD = true := by
  unfold SeqAt.shaped
  rw [lay_plain h.plP, Bool.true_and]
  exact decide_eq_true (Nat.le_trans r.depthP (by decide))
/-! lengths -/
theorem wt_f {v : V} (h : ∀ z, v = .str z → z.length ≤ 100) : wt (fD v) ≤ 1921 := by
  cases v with
  | str z =>
    show wt (.str z) ≤ 1921
    rw [wt]
    have := h z rfl
    omega
  | _ => simp [fD, wt]
theorem wt_fs : ∀ xs : List V, (∀ x ∈ xs, ∀ z, x = .str z → z.length ≤ 100) → wtAll (xs.map fD) ≤ 1923 * xs.length
  | [], _ => by simp [wtAll]
  | x :: xs, h => by
    rw [List.map_cons, wtAll_cons, List.length_cons]
    have h1 := wt_f (h x List.mem_cons_self)
    have h2 := wt_fs xs fun y hy => h y (List.mem_cons_of_mem _ hy)
    omega
theorem ValV.short {v : V} (h : ValV v) : ∀ z, v = .str z → z.length ≤ 100 := by
  intro z e
  subst e
  rcases h with e | e | ⟨i, e, _⟩
  · cases e
  · injection e with e
    subst e
    decide
  · cases e
theorem MoveV.short {xs : List V} (h : MoveV xs) : ∀ x ∈ xs, ∀ z, x = .str z → z.length ≤ 100 := by
  intro x hx z e
  subst e
  rcases h with rfl | ⟨k, y, hk, rfl, hn⟩ | ⟨k, y, v, hk, rfl, hn, hv⟩
  · injection List.mem_singleton.mp hx with e
    subst e
    decide
  · rcases List.mem_cons.mp hx with e | hx
    · injection e with e
      subst e
      rcases hk with rfl | rfl <;> decide
    · injection List.mem_singleton.mp hx with e
      subst e
      have := hn.2.2
      omega
  · rcases List.mem_cons.mp hx with e | hx
    · injection e with e
      subst e
      rcases hk with rfl | rfl | rfl <;> decide
    · rcases List.mem_cons.mp hx with e | hx
      · injection e with e
        subst e
        have := hn.2.2
        omega
      · have e := List.mem_singleton.mp hx
        rcases hv with ⟨i, rfl, _⟩ | ⟨_, rfl⟩
        · cases e
        · injection e with e
          subst e
          decide
theorem wt_ts : ∀ ms : List (List V), (∀ m ∈ ms, MoveV m) → wtAll (ms.map tD) ≤ 6000 * ms.length
  | [], _ => by simp [wtAll]
  | m :: ms, h => by
    rw [List.map_cons, wtAll_cons, List.length_cons, wt_tup]
    have h1 := wt_fs m (h m List.mem_cons_self).short
    have h2 := (h m List.mem_cons_self).len
    have h3 := wt_ts ms fun y hy => h y (List.mem_cons_of_mem _ hy)
    omega
theorem Row.Ok.lenT {r : Row} (h : r.Ok) : r.told.shown.length ≤ sizeLine := by
  refine Nat.le_trans (shown_len h.plT) ?_
  rw [wt_lst, wtAll_cons, wtAll_cons, wtAll_cons, wtAll_cons, wtAll_cons, wt_tup, wt_tup, wt_tup]
  have h1 := wt_fs r.g fun x hx => (h.g.2 x hx).short
  have h2 := wt_fs r.f fun x hx => (h.f.2 x hx).short
  have h3 := wt_ts r.ms h.ms.2
  have h4 := h.g.1
  have h5 := h.f.1
  have h6 := h.ms.1
  have h7 : wt (.int (stepsN r.ms : Nat)) = 1921 := by rw [wt]
  have h8 : wt (.str (lineS r.ms.length)) ≤ 2000 := by
    rw [wt]
    unfold lineS
    rw [app_length, app_length]
    have e := int_text_length_le10 (a := (r.ms.length : Int)) (k := 31) (by decide) (by omega)
    rw [← PySem.ofString_length] at e
    have e1 : ("Run(" : Str).length = 4 := by decide
    have e2 : (" moves)" : Str).length = 7 := by decide
    omega
  have h9 : wtAll [] = 0 := by rw [wtAll]
  rw [sizeLine_eq]
  omega
theorem Row.Ok.lenL {r : Row} (h : r.Ok) : r.lD.shown.length ≤ sizeLine := by
  refine Nat.le_trans (shown_len h.plL) ?_
  rw [wt_lst, wtAll_cons, wtAll_cons, wtAll_cons, wt_tup, wt_tup, wt_tup]
  have h1 := wt_fs r.g fun x hx => (h.g.2 x hx).short
  have h2 := wt_fs r.f fun x hx => (h.f.2 x hx).short
  have h3 := wt_ts r.ms h.ms.2
  have h4 := h.g.1
  have h5 := h.f.1
  have h6 := h.ms.1
  have h9 : wtAll [] = 0 := by rw [wtAll]
  rw [sizeLine_eq]
  omega
/-- equality of the parts is equality of the reprs -/
theorem alike {r s : Row} (hr : r.Ok) (hs : s.Ok) : decide (r.lD.shown = s.lD.shown) = PyData.eqv r.pD s.pD := by
  rw [alike_plain hr.plL hs.plL]
  simp [PyData.eqv]
end K25
set_option Elab.async false
set_option linter.all false
set_option maxRecDepth 100000
set_option maxHeartbeats 4000000
namespace K25
open PySem PySem.Spec PyProof.Rows L2 Mo
/-! ### data in the heap -/
def Flat : V → Prop
  | .non => True
  | .bl _ => True
  | .int _ => True
  | .str _ => True
  | _ => False
section
variable {K : PySem.W.Frag} {H : Hp}
theorem dp_f : ∀ {v : V}, Flat v → Dp K H v (fD v)
  | .non, _ => .non
  | .bl b, _ => .bl b
  | .int i, _ => .int i
  | .str z, _ => .str z
theorem dp_fs : ∀ {xs : List V}, (∀ x ∈ xs, Flat x) → DpAll K H xs (xs.map fD)
  | [], _ => .nil
  | x :: xs, h => .cons (dp_f (h x List.mem_cons_self)) (dp_fs fun y hy => h y (List.mem_cons_of_mem _ hy))
theorem ValV.flat {v : V} (h : ValV v) : Flat v := by
  rcases h with rfl | rfl | ⟨i, rfl, _⟩ <;> exact trivial
theorem MoveV.flat {xs : List V} (h : MoveV xs) : ∀ x ∈ xs, Flat x := by
  intro x hx
  rcases h with rfl | ⟨k, z, hk, rfl, hn⟩ | ⟨k, z, v, hk, rfl, hn, hv⟩
  · rw [List.mem_singleton.mp hx]
    exact trivial
  · rcases List.mem_cons.mp hx with rfl | hx
    · exact trivial
    · rw [List.mem_singleton.mp hx]
      exact trivial
  · rcases List.mem_cons.mp hx with rfl | hx
    · exact trivial
    · rcases List.mem_cons.mp hx with rfl | hx
      · exact trivial
      · rw [List.mem_singleton.mp hx]
        rcases hv with ⟨i, rfl, _⟩ | ⟨_, rfl⟩ <;> exact trivial
theorem dp_vals {p : Addr} {xs : List V} (h : H p = some (.tup xs)) (hv : Vals1 xs) : Dp K H (.ref p) (tD xs) := .tup (SqT.of h) (dp_fs fun x hx => (hv.2 x hx).flat)
theorem dp_ms : ∀ {qs : List Addr} {ms : List (List V)}, qs.length = ms.length → (∀ (i : Nat) (q : Addr) (m : List V), qs[i]? = some q → ms[i]? = some m → H q = some (.tup m)) → (∀ m ∈ ms, MoveV m) → DpAll K H (qs.map V.ref) (ms.map tD)
  | [], [], _, _, _ => .nil
  | [], _ :: _, h, _, _ => by cases h
  | _ :: _, [], h, _, _ => by cases h
  | q :: qs, m :: ms, h, hq, hm => .cons (.tup (SqT.of (hq 0 q m rfl rfl)) (dp_fs (hm m List.mem_cons_self).flat))
      (dp_ms (Nat.succ.inj h) (fun i q m a b => hq (i + 1) q m a b) fun y hy => hm y (List.mem_cons_of_mem _ hy))
theorem dp_moves {p : Addr} {ms : List (List V)} (h : MovesAt H p ms) (hm : Moves1 ms) : Dp K H (.ref p) (mD ms) := by
  obtain ⟨qs, h1, h2, h3⟩ := h
  exact .tup h1.sq (dp_ms h2 h3 hm.2)
end
section
variable {P : Program} {w : World} {K : PySem.W.Frag} {mg : Str → Option Value} {base : Heap} {A : Ads}
theorem un66 {k : Nat} {B : Around} (hr : Room k B) : B.units + 66 < cLine := by
  have := hr.un
  omega
theorem lineS_len {n : Nat} (h : n ≤ 200) : (lineS n).length ≤ 100 := by
  unfold lineS
  rw [app_length, app_length]
  have e := int_text_length_le10 (a := (n : Int)) (k := 31) (by decide) (by omega)
  rw [← PySem.ofString_length] at e
  have e1 : ("Run(" : Str).length = 4 := by decide
  have e2 : (" moves)" : Str).length = 7 := by decide
  omega
/-- one of the parts of a run -/
def spPart (A : Ads) (sel : Addr → Addr → Addr → Addr) : Sp := fun vs H Q _ => ∃ a dx pt pg pf pm, vs = [.ref a] ∧ H a = some (.ins A.c_Run dx [("parts", .ref pt)]) ∧ H pt = some (.tup [.ref pg, .ref pf, .ref pm]) ∧ Q (.ref (sel pg pf pm)) H
theorem ok_Run_arguments (T : Txt K mg A) : FnOk P w K mg base CX0 1 A.a_Run_arguments A.d_Run_arguments ["self"] (spPart A fun g _ _ => g) := by
  have nd := sc_Run_arguments.nd
  refine T.f_Run_arguments.ok sc_Run_arguments (fun vs H Q E h => ?_) (fun cdv A' outer s H vs Q E hr h => ?_)
  · obtain ⟨a, dx, pt, pg, pf, pm, rfl, _⟩ := h
    rfl
  · obtain ⟨a, dx, pt, pg, pf, pm, rfl, ha, ht, q⟩ := h
    refine ⟨_, (pss_one (ps_ret (pe_ix ix_tup (pe_fld (pv 0) rfl) pe_int (fun _ _ => rfl)))), ?_⟩
    exact ⟨_, rfl, a, _, dx, _, _, rfl, ha, T.cl_Run, T.na_Run_parts, rfl, pt, _, _, _, rfl, rfl, SqT.of ht, atI_nat (j := 0) rfl, q⟩
theorem ok_Run_store (T : Txt K mg A) : FnOk P w K mg base CX0 1 A.a_Run_store A.d_Run_store ["self"] (spPart A fun _ f _ => f) := by
  have nd := sc_Run_store.nd
  refine T.f_Run_store.ok sc_Run_store (fun vs H Q E h => ?_) (fun cdv A' outer s H vs Q E hr h => ?_)
  · obtain ⟨a, dx, pt, pg, pf, pm, rfl, _⟩ := h
    rfl
  · obtain ⟨a, dx, pt, pg, pf, pm, rfl, ha, ht, q⟩ := h
    refine ⟨_, (pss_one (ps_ret (pe_ix ix_tup (pe_fld (pv 0) rfl) pe_int (fun _ _ => rfl)))), ?_⟩
    exact ⟨_, rfl, a, _, dx, _, _, rfl, ha, T.cl_Run, T.na_Run_parts, rfl, pt, _, _, _, rfl, rfl, SqT.of ht, atI_nat (j := 1) rfl, q⟩
theorem ok_Run_moves (T : Txt K mg A) : FnOk P w K mg base CX0 1 A.a_Run_moves A.d_Run_moves ["self"] (spPart A fun _ _ m => m) := by
  have nd := sc_Run_moves.nd
  refine T.f_Run_moves.ok sc_Run_moves (fun vs H Q E h => ?_) (fun cdv A' outer s H vs Q E hr h => ?_)
  · obtain ⟨a, dx, pt, pg, pf, pm, rfl, _⟩ := h
    rfl
  · obtain ⟨a, dx, pt, pg, pf, pm, rfl, ha, ht, q⟩ := h
    refine ⟨_, (pss_one (ps_ret (pe_ix ix_tup (pe_fld (pv 0) rfl) pe_int (fun _ _ => rfl)))), ?_⟩
    exact ⟨_, rfl, a, _, dx, _, _, rfl, ha, T.cl_Run, T.na_Run_parts, rfl, pt, _, _, _, rfl, rfl, SqT.of ht, atI_nat (j := 2) rfl, q⟩
/-- what a run at a is -/
abbrev Run1 (A : Ads) (H : Hp) (a : Addr) (r : Row) : Prop := RunAt A H a r.g r.f r.ms
def spSteps (A : Ads) : Sp := fun vs H Q _ => ∃ (a : Addr) (r : Row), vs = [.ref a] ∧ Run1 A H a r ∧ r.Ok ∧ ∀ H', Same H H' → Q (.int (stepsN r.ms : Nat)) H'
theorem dp_step {H : Hp} {p : Addr} (h : H p = some (.tup [.str "step"])) : Dp K H (.ref p) stepD := .tup (SqT.of h) (.cons (.str _) .nil)
theorem sh_step : SeqAt.shaped stepD = true := by decide +kernel
theorem ok_Run_steps (T : Txt K mg A) : FnOk P w K mg base CX0 3 A.a_Run_steps A.d_Run_steps ["self"] (spSteps A) := by
  have nd := sc_Run_steps.nd
  refine T.f_Run_steps.ok sc_Run_steps (fun vs H Q E h => ?_) (fun cdv A' outer s H vs Q E hr h => ?_)
  · obtain ⟨a, r, rfl, _⟩ := h
    rfl
  · obtain ⟨a, r, rfl, ⟨dx, pt, pg, pf, pm, ha, ht, hg, hf, hm⟩, ok, k⟩ := h
    refine ⟨_, (pss_one (ps_ret (pe_bmX PySem.F.slot_tuple_count PySem.F.type_tuple_count (mt_tcount (un66 hr)) (pe_prop (pv 0) T.cl_Run T.pr_Run_moves (ok_Run_moves T) (hr.mono (by decide)) T.v_Run_moves .nil pass0 rfl) (pa_cons (pe_tup (pa_cons pe_str pa_nil)) pa_nil)))), ?_⟩
    refine ⟨_, rfl, a, dx, _, rfl, ha, a, dx, pt, pg, pf, pm, rfl, ha, ht, ?_⟩
    obtain ⟨qs0, h10, _⟩ := id hm
    refine ⟨⟨_, _, rfl, h10⟩, (by show 1 ≤ sizeLine; decide), fun p hp => ?_⟩
    have s1 := same_new (o := .tup [.str "step"]) hp
    obtain ⟨qs, h1, h2, h3⟩ := hm.same s1
    refine ⟨pm, _, stepD, _, _, rfl, rfl, h1.sq, dp_ms h2 h3 ok.ms.2, dp_step upd_same, ?_, sh_step, k _ s1⟩
    exact lay_plainAll (plAll_tD ok.ms.2)
def spEq (K : PySem.W.Frag) (A : Ads) : Sp := fun vs H Q _ => ∃ (a : Addr) (y : V) (r : Row), vs = [.ref a, y] ∧ Run1 A H a r ∧ r.Ok ∧ ((∃ (b : Addr) (s : Row), y = .ref b ∧ Run1 A H b s ∧ s.Ok ∧ Q (.bl (PyData.eqv r.pD s.pD)) H) ∨ ∃ n : Ty7, TyX K H y (.type n.nm) ∧ Q (.bl false) H)
theorem dp_parts {H : Hp} {pt pg pf pm : Addr} {r : Row} (ht : H pt = some (.tup [.ref pg, .ref pf, .ref pm])) (hg : H pg = some (.tup r.g)) (hf : H pf = some (.tup r.f)) (hm : MovesAt H pm r.ms) (ok : r.Ok) : Dp K H (.ref pt) r.pD :=
  .tup (SqT.of ht) (.cons (dp_vals hg ok.g) (.cons (dp_vals hf ok.f) (.cons (dp_moves hm ok.ms) .nil)))
theorem ok_Run___eq__ (T : Txt K mg A) : FnOk P w K mg base CX0 2 A.a_Run___eq__ A.d_Run___eq__ ["self", "other"] (spEq K A) := by
  have nd := sc_Run___eq__.nd
  refine T.f_Run___eq__.ok sc_Run___eq__ (fun vs H Q E h => ?_) (fun cdv A' outer s H vs Q E hr h => ?_)
  · obtain ⟨a, y, r, rfl, _⟩ := h
    rfl
  · obtain ⟨a, y, r, rfl, ⟨dx, pt, pg, pf, pm, ha, ht, hg, hf, hm⟩, ok, h⟩ := h
    refine ⟨_, (pss_one (ps_ret (pe_and (pe_callB call_isi (by rfl) T.b_isinstance (by decide +kernel) (pa_cons (pv 1) (pa_cons (pe_gR T.m_Run) pa_nil))) (pe_one (pe_cmpR (op_eqD hr.units) (pe_fld (pv 0) rfl) (pe_fld (pv 1) rfl) (nomark _)))))), ?_⟩
    rcases h with ⟨b, s, rfl, ⟨dx', pt', pg', pf', pm', ha', ht', hg', hf', hm'⟩, ok', q⟩ | ⟨n, th, q⟩
    · refine ⟨_, rfl, _, _, _, _, _, rfl, .own _, T.ty_Run _ _ _ _ ha', T.ks_Run, ?_⟩
      refine ⟨_, rfl, ?_⟩
      refine ⟨_, rfl, a, _, dx, _, _, rfl, ha, T.cl_Run, T.na_Run_parts, rfl, ?_⟩
      refine ⟨_, rfl, b, _, dx', _, _, rfl, ha', T.cl_Run, T.na_Run_parts, rfl, ?_⟩
      exact ⟨_, _, dp_parts ht hg hf hm ok, dp_parts ht' hg' hf' hm' ok', ok.shP, ok'.shP, q⟩
    · refine ⟨_, rfl, _, _, _, _, _, rfl, .own _, th, T.ki_Run n, ?_⟩
      exact ⟨_, rfl, q⟩
def spRepr (A : Ads) : Sp := fun vs H Q _ => ∃ (a : Addr) (r : Row), vs = [.ref a] ∧ Run1 A H a r ∧ r.Ok ∧ Q (.str (lineS r.ms.length)) H
theorem ok_Run___repr__ (T : Txt K mg A) : FnOk P w K mg base CX0 3 A.a_Run___repr__ A.d_Run___repr__ ["self"] (spRepr A) := by
  have nd := sc_Run___repr__.nd
  refine T.f_Run___repr__.ok sc_Run___repr__ (fun vs H Q E h => ?_) (fun cdv A' outer s H vs Q E hr h => ?_)
  · obtain ⟨a, r, rfl, _⟩ := h
    rfl
  · obtain ⟨a, r, rfl, ⟨dx, pt, pg, pf, pm, ha, ht, hg, hf, ⟨qs, h1, h2, h3⟩⟩, ok, q⟩ := h
    refine ⟨_, (pss_one (ps_ret (pe_joined (.cons pe_str (.cons (pe_fmt (pe_callB call_len_seq (by rfl) T.b_len (by decide +kernel) (pa_cons (pe_prop (pv 0) T.cl_Run T.pr_Run_moves (ok_Run_moves T) (hr.mono (by decide)) T.v_Run_moves .nil pass0 rfl) pa_nil))) (.cons pe_str .nil)))))), ?_⟩
    refine ⟨_, rfl, (by decide +kernel), _, rfl, a, dx, _, rfl, ha, a, dx, pt, pg, pf, pm, rfl, ha, ht, pm, _, rfl, Or.inr h1.sq, ?_⟩
    refine Or.inr ⟨_, rfl, ?_, ?_⟩
    · have := ok.ms.1
      exact log31 (by omega) (by rw [List.length_map, h2]; omega)
    · have l1 : ((List.map V.ref qs).length : Int) = (r.ms.length : Int) := by rw [List.length_map, h2]
      rw [l1]
      have e0 : (Str.empty ++ ("Run(" : Str)) = ("Run(" : Str) := by decide +kernel
      have hb := lineS_len ok.ms.1
      have hb2 : ((("Run(" : Str) ++ Str.ofString (toString (r.ms.length : Int)))).length ≤ (lineS r.ms.length).length := by
        unfold lineS
        rw [app_length (("Run(" : Str) ++ Str.ofString (toString (r.ms.length : Int)))]
        omega
      refine ⟨_, rfl, ?_, _, rfl, ?_, ?_⟩
      · rw [e0]
        exact Nat.le_trans hb2 (Nat.le_trans hb (by decide))
      · rw [e0]
        exact Nat.le_trans hb (by decide)
      · rw [e0]
        exact q
end
end K25
set_option Elab.async false
set_option linter.all false
set_option maxRecDepth 100000
set_option maxHeartbeats 4000000
namespace K25
open PySem PySem.Spec PyProof.Rows L2 Mo
/-- a source of draws -/
def Sr (H : Hp) (a : Addr) : Prop := ∃ x y c : Int, H a = some (.lst [.int x, .int y, .int c])
theorem Sr.same {H H' : Hp} {a : Addr} (s : Sr H a) (e : Same H H') : Sr H' a := let ⟨x, y, c, h⟩ := s; ⟨x, y, c, e _ _ h⟩
theorem Sr.keep {H H' : Hp} {a b : Addr} (s : Sr H a) (n : a ≠ b) (e : KeepBut b H H') : Sr H' a := let ⟨x, y, c, h⟩ := s; ⟨x, y, c, e _ _ n h⟩
theorem Sr.ne {H : Hp} {a b : Addr} {u : HO} (s : Sr H a) (h : H b = some u) (hu : ∀ x y c : Int, u ≠ .lst [.int x, .int y, .int c]) : b ≠ a := by
  obtain ⟨x, y, c, ha⟩ := s
  exact ne_of h ha (hu x y c)
theorem Sr.fresh {H : Hp} {a b : Addr} (s : Sr H a) (h : H b = none) : b ≠ a := by
  obtain ⟨x, y, c, ha⟩ := s
  exact (ne_of_none ha h).symm
def spDraw : Sp := fun vs H Q _ => ∃ (a : Addr) (m : Int), vs = [.ref a, .int m] ∧ Sr H a ∧ 0 < m ∧ m < 1073741824 ∧ ∀ (d : Int) (H' : Hp), 0 ≤ d → d < m → Sr H' a → KeepBut a H H' → Q (.int d) H'
def spAll (K : PySem.W.Frag) : Sp := fun vs H Q _ => ∃ (a : Addr) (ns : List Int), vs = [.ref a] ∧ SqL K H a (ns.map V.int) ∧ ns.length ≤ 63 ∧
  ∀ (p : Addr) (qs : List Addr) (H' : Hp), qs.length ≤ 100 → H' p = some (.lst (qs.map V.ref)) → (∀ q ∈ qs, Sr H' q) → Q (.ref p) H'
section
variable {P : Program} {w : World} {K : PySem.W.Frag} {mg : Str → Option Value} {base : Heap} {A : Ads}
theorem ok_law_draw (T : Txt K mg A) : FnOk P w K mg base CX0 1 A.a_law_draw A.d_law_draw ["_law_source", "_law_many"] spDraw := by
  have nd := sc_law_draw.nd
  refine T.f_law_draw.ok sc_law_draw (fun vs H Q E h => ?_) (fun cdv A' outer s H vs Q E hr h => ?_)
  · obtain ⟨a, m, rfl, _⟩ := h
    rfl
  · obtain ⟨a, m, rfl, ⟨x, y, c, ha⟩, m0, m1, k⟩ := h
    refine ⟨_, (pss_cons (ps_asg (pe_op op_add (pe_ix ix_list (pv 0) pe_int (fun _ _ => rfl)) pe_int) (pg_sub (pv 0) pe_int set_list))
      (pss_cons (ps_set (i := 2) nd rfl (Or.inl rfl) (pe_op op_mod (pe_callTy call_int1 (by rfl) T.b_int (by decide +kernel) (pa_cons (pe_op op_add (pe_ix ix_list (pv 0) pe_int (fun _ _ => rfl)) (pe_op op_mul pe_int (pe_ix ix_list (pv 0) pe_int (fun _ _ => rfl)))) pa_nil)) pe_int))
      (pss_cons (ps_asg (pe_op op_mod (pe_callTy call_int1 (by rfl) T.b_int (by decide +kernel) (pa_cons (pe_op op_add (pe_op op_mul (pv 2) (pe_op op_add (pe_op op_mod (pe_callTy call_int1 (by rfl) T.b_int (by decide +kernel) (pa_cons (pv 2) pa_nil)) pe_int) pe_int)) pe_int) pa_nil)) pe_int) (pg_sub (pv 0) pe_int set_list))
      (pss_cons (ps_if (pt_cmpR op_gt (pe_ix ix_list (pv 0) pe_int (fun _ _ => rfl)) pe_int (nomark _)) (pss_cons (ps_asg (pe_callB call_divmod (by rfl) T.b_divmod (by decide +kernel) (pa_cons (pe_ix ix_list (pv 0) pe_int (fun _ _ => rfl)) (pa_cons (pv 1) pa_nil))) (pg_tup rfl (pgs_cons (pg_sub (pv 0) pe_int set_list) (pgs_cons (pg_name (i := 3) nd rfl (Or.inl rfl)) pgs_nil))))
      (pss_one (ps_ret (pv 3)))) pss_nil)
      (pss_one (ps_ret (pe_op op_mod (pe_callTy call_int1 (by rfl) T.b_int (by decide +kernel) (pa_cons (pe_op op_fdiv (pe_ix ix_list (pv 0) pe_int (fun _ _ => rfl)) pe_int) pa_nil)) (pv 1)))))))), ?_⟩
    refine ⟨_, rfl, a, _, _, _, rfl, rfl, SqL.of ha, rfl, _, _, rfl, rfl, _, rfl, a, _, _, _, rfl, rfl, ha, rfl, ?_⟩
    refine ⟨_, rfl, a, _, _, _, rfl, rfl, SqL.of upd_same, rfl, _, rfl, a, _, _, _, rfl, rfl, SqL.of upd_same, rfl, _, _, rfl, rfl, Or.inl ⟨by decide, by decide⟩, _, _, rfl, rfl, Or.inl ⟨_, rfl, ?_⟩⟩
    refine ⟨_, _, rfl, rfl, (by show (0 : Int) < 2147483629; decide), ?_⟩
    generalize hs : (y + 7907 * (c + 1)) % 2147483629 = z
    have z0 : 0 ≤ z := by rw [← hs]; exact Int.emod_nonneg _ (by decide)
    have z1 : z < 2147483629 := by rw [← hs]; exact Int.emod_lt_of_pos _ (by decide)
    refine ⟨_, rfl, _, rfl, Or.inl ⟨_, rfl, _, _, rfl, rfl, (by show (0 : Int) < 45007; decide), _, _, rfl, rfl, _, _, rfl, rfl, Or.inl ⟨by omega, by omega⟩, _, _, rfl, rfl, Or.inl ⟨_, rfl, ?_⟩⟩⟩
    refine ⟨_, _, rfl, rfl, (by show (0 : Int) < 2147483629; decide), _, rfl, a, _, _, _, rfl, rfl, upd_same, rfl, ?_⟩
    refine ⟨_, rfl, a, _, _, _, rfl, rfl, SqL.of upd_same, rfl, _, _, rfl, rfl, _, rfl, ?_⟩
    refine ite2 (fun hy => ?_) (fun hy => ?_)
    · refine ⟨_, rfl, a, _, _, _, rfl, rfl, SqL.of upd_same, rfl, _, rfl, x, m, rfl, ⟨m0, m1⟩, ?_⟩
      intro p hp
      have npa : a ≠ p := ne_of_none upd_same hp
      refine ⟨p, _, rfl, SqT.of upd_same, rfl, ?_⟩
      refine ⟨_, _, rfl, _, rfl, a, _, _, _, rfl, rfl, (upd_ne npa).trans upd_same, rfl, _, _, rfl, rfl, ?_⟩
      refine ⟨_, rfl, ?_⟩
      refine k (x % m) _ (Int.emod_nonneg _ (by omega)) (Int.emod_lt_of_pos _ m0) ⟨x / m, _, c + 1, upd_same⟩ ?_
      intro b o hb e
      have hbp : b ≠ p := fun z => by
        subst z
        rw [upd_ne hb, upd_ne hb, e] at hp
        cases hp
      rw [upd_ne hb, upd_ne hbp, upd_ne hb, upd_ne hb]
      exact e
    · refine ⟨_, rfl, a, _, _, _, rfl, rfl, SqL.of upd_same, rfl, _, _, rfl, rfl, ⟨by decide, by decide⟩, Or.inl ⟨_, rfl, ?_⟩⟩
      refine ⟨_, rfl, _, _, rfl, rfl, m0, ?_⟩
      refine k _ _ (Int.emod_nonneg _ (by omega)) (Int.emod_lt_of_pos _ m0) ⟨x, _, c + 1, upd_same⟩ ?_
      intro b o hb e
      rw [upd_ne hb, upd_ne hb]
      exact e
theorem cut_ints (ns : List Int) (lo hi : Option Int) : ∃ ms : List Int, cutV (ns.map V.int) lo hi = ms.map V.int ∧ ms.length ≤ ns.length := by
  refine ⟨(ns.drop (HT.sIx ns.length 0 lo)).take (HT.sIx ns.length ns.length hi - HT.sIx ns.length 0 lo), ?_, ?_⟩
  · unfold cutV
    rw [List.map_take, List.map_drop, List.length_map]
  · rw [List.length_take, List.length_drop]
    omega
theorem ok_law_all (T : Txt K mg A) : FnOk P w K mg base CX0 1 A.a_law_all A.d_law_all ["_law_script"] (spAll K) := by
  have nd := sc_law_all.nd
  refine T.f_law_all.ok sc_law_all (fun vs H Q E h => ?_) (fun cdv A' outer s H vs Q E hr h => ?_)
  · obtain ⟨a, ns, rfl, _⟩ := h
    rfl
  · obtain ⟨a, ns, rfl, hS, hl, k⟩ := h
    refine ⟨_, (pss_cons (ps_set (i := 1) nd rfl (Or.inl rfl) (pe_callTy call_list_of (by rfl) T.b_list (by decide +kernel) (pa_cons (pe_slice sl_list (pv 0) po_none (po_some pe_int)) pa_nil)))
      (pss_cons (ps_while PassesOwn.never (pt_cmpR op_lt (pe_callB call_len_seq (by rfl) T.b_len (by decide +kernel) (pa_cons (pv 1) pa_nil)) pe_int (nomark _)) (pss_one (ps_expr (pe_bm PySem.F.plainAttrs_list PySem.F.slot_list_append PySem.F.type_list_append mt_append (pv 1) (pa_cons (pe_op op_mod (pe_callTy call_int1 (by rfl) T.b_int (by decide +kernel) (pa_cons (pe_op op_add (pe_op op_add pe_int (pe_op op_mul pe_int (pe_callB (cr_sum rfl) (by rfl) T.b_sum (by decide +kernel) (pa_cons (pv 1) pa_nil)))) (pe_op op_mul pe_int (pe_callB call_len_seq (by rfl) T.b_len (by decide +kernel) (pa_cons (pv 1) pa_nil)))) pa_nil)) pe_int) pa_nil)))))
      (pss_one (ps_ret (pe_lc (own := [("_law_x", 2)]) (g := gName 2) (tt := tYes) rfl nd (pi_list (pv 1)) (blkOk_by (N := nm_law_all) (sc := defScope st_law_all) (by decide +kernel)) (fun _ _ _ _ _ => (pg_name (i := 2) nd rfl (Or.inl rfl))) (fun _ _ _ _ _ => pts_nil) (fun _ _ _ _ _ => (pe_lst (pa_cons (pe_ifExp (PW.pt (pw_or (pt_cmpR op_lt (pv 2) pe_int (nomark _)) (pw_or1 (pt_cmpR op_ge (pv 2) (pe_op op_pow pe_int pe_int) (nomark _))))) (pe_callB call_abs (by rfl) T.b_abs (by decide +kernel) (pa_cons (pv 2) pa_nil)) pe_int) (pa_cons (pe_op op_mod (pe_callTy call_int1 (by rfl) T.b_int (by decide +kernel) (pa_cons (pv 2) pa_nil)) pe_int) (pa_cons pe_int pa_nil)))))))))), ?_⟩
    refine ⟨_, rfl, _, rfl, a, _, rfl, hS, fun p hp => ?_⟩
    obtain ⟨ms, em, lm⟩ := cut_ints ns none (some 4)
    rw [em]
    refine ⟨p, _, rfl, Or.inl (SqL.of upd_same), fun l hL => ?_⟩
    refine while_by (fun σ H2 => σ = [some (.ref a), some (.ref l), none] ∧ ∃ zs : List Int, H2 l = some (.lst (zs.map V.int)) ∧ zs.length ≤ 63) (fun _ H2 => match H2 l with | some (.lst xs) => 2 - xs.length | _ => 0) ⟨rfl, ms, upd_same, by omega⟩ ?_ ?_
    · rintro σ H2 ⟨rfl, zs, hz, lz⟩
      refine ⟨_, rfl, l, _, rfl, Or.inl (SqL.of hz), _, _, rfl, rfl, _, rfl, ?_⟩
      refine ite2 (fun h2 => ?_) (fun h2 => ?_)
      · have h2 := of_decide_eq_true h2
        rw [List.length_map] at h2
        refine ⟨_, rfl, Or.inl ⟨rfl, _, SqL.of hz⟩, _, rfl, l, zs, rfl, SqL.of hz, _, _, rfl, rfl, Or.inl ⟨by decide, by decide⟩, _, _, rfl, rfl, _, rfl, l, _, rfl, Or.inl (SqL.of hz), _, _, rfl, rfl, Or.inl ⟨by decide, by decide⟩, _, _, rfl, rfl, Or.inl ⟨_, rfl, ?_⟩⟩
        refine ⟨_, _, rfl, rfl, (by show (0 : Int) < 2147483629; decide), l, _, _, rfl, rfl, hz, ?_, ?_⟩
        · rw [List.length_map]
          exact lt5000 (by omega)
        · refine ⟨⟨rfl, zs ++ [_], by rw [upd_same, List.map_append]; rfl, by rw [List.length_append]; show zs.length + 1 ≤ 63; omega⟩, ?_⟩
          dsimp only
          rw [upd_same, hz]
          dsimp only
          rw [List.length_append, List.length_map]
          show 2 - (zs.length + 1) < 2 - zs.length
          omega
      · refine ⟨_, rfl, l, rfl, ⟨_, SqL.of hz⟩, fun D hD => ?_⟩
        refine lc_list (K := K) (a := l) (xs := zs.map V.int) (fun i H3 => Same H2 H3 ∧ ∃ qs : List Addr, qs.length = i ∧ H3 D = some (.lst (qs.map V.ref)) ∧ ∀ q ∈ qs, Sr H3 q) ⟨same_new hD, [], rfl, upd_same, fun q hq => (List.not_mem_nil hq).elim⟩ (fun i H3 _ h => SqL.of (h.1 _ _ hz)) ?_ ?_
        · rintro i x H3 hx ⟨s3, qs, lq, hd, hq⟩
          obtain ⟨n, hn, rfl⟩ : ∃ n, n ∈ zs ∧ x = V.int n := by
            obtain ⟨n, h1, h2⟩ := List.mem_map.mp (List.mem_of_getElem? hx)
            exact ⟨n, h1, h2.symm⟩
          have hi : i < zs.length := by
            have := (List.getElem?_eq_some_iff.mp hx).1
            rwa [List.length_map] at this
          refine ⟨rfl, ?_⟩
          have fin : ∀ (y z : Int) (p1 : Addr), H3 p1 = none → ∃ acc, (upd H3 p1 (.lst [.int y, .int z, .int 0])) D = some (.lst acc) ∧ acc.length < sizeLine ∧
              (Same H2 (upd (upd H3 p1 (.lst [.int y, .int z, .int 0])) D (.lst (acc ++ [.ref p1]))) ∧ ∃ qs : List Addr, qs.length = i + 1 ∧ (upd (upd H3 p1 (.lst [.int y, .int z, .int 0])) D (.lst (acc ++ [.ref p1]))) D = some (.lst (qs.map V.ref)) ∧
                ∀ q ∈ qs, Sr (upd (upd H3 p1 (.lst [.int y, .int z, .int 0])) D (.lst (acc ++ [.ref p1]))) q) := by
            intro y z p1 hp1
            have np : D ≠ p1 := ne_of_none hd hp1
            refine ⟨qs.map V.ref, (upd_ne np).trans hd, ?_, ?_, qs ++ [p1], by rw [List.length_append, lq]; rfl, by rw [upd_same, List.map_append]; rfl, ?_⟩
            · rw [List.length_map]
              exact lt5000 (by omega)
            · intro b o e
              have h1 : b ≠ D := ne_of_none e hD
              have h2 : b ≠ p1 := ne_of_none (s3 _ _ e) hp1
              rw [upd_ne h1, upd_ne h2]
              exact s3 _ _ e
            · intro q hq2
              rcases List.mem_append.mp hq2 with hq2 | hq2
              · have e := hq q hq2
                have n1 : D ≠ q := e.ne hd (by
                  intro x y c z
                  injection z with z
                  cases qs with
                  | nil => cases z
                  | cons _ _ => cases z)
                obtain ⟨x1, y1, c1, e1⟩ := e
                have n2 : q ≠ p1 := ne_of_none e1 hp1
                exact ⟨x1, y1, c1, by rw [upd_ne n1.symm, upd_ne n2]; exact e1⟩
              · have e := List.mem_singleton.mp hq2
                subst e
                exact ⟨y, z, 0, by rw [upd_ne np.symm, upd_same]⟩
          refine ⟨_, rfl, _, _, rfl, rfl, _, rfl, ?_⟩
          refine ite2 (fun _ => iteT ?_) (fun _ => ?_)
          · exact ⟨_, rfl, _, rfl, _, rfl, Or.inl ⟨_, rfl, _, _, rfl, rfl, (by show (0 : Int) < 2147483629; decide), (by show 3 ≤ sizeLine; decide), fun p1 hp1 => fin _ _ p1 hp1⟩⟩
          · refine ⟨_, rfl, _, _, rfl, rfl, ⟨by decide, by decide, by decide⟩, _, _, rfl, rfl, _, rfl, ?_⟩
            refine ite2 (fun _ => ?_) (fun _ => ?_)
            · exact ⟨_, rfl, _, rfl, _, rfl, Or.inl ⟨_, rfl, _, _, rfl, rfl, (by show (0 : Int) < 2147483629; decide), (by show 3 ≤ sizeLine; decide), fun p1 hp1 => fin _ _ p1 hp1⟩⟩
            · exact ⟨_, rfl, Or.inl ⟨_, rfl, _, _, rfl, rfl, (by show (0 : Int) < 2147483629; decide), (by show 3 ≤ sizeLine; decide), fun p1 hp1 => fin _ _ p1 hp1⟩⟩
        · rintro H3 ⟨s3, qs, lq, hd, hq⟩
          rw [List.length_map] at lq
          exact k D qs H3 (by omega) hd hq
    · intro σ H2 Q1 Q2 hh
      rintro ⟨v, e1, l1, xs1, e2, h1, i1, j1, e3, e4, b1, e5, h3⟩
      exact ⟨v, e1, l1, xs1, e2, h1, i1, j1, e3, e4, b1, e5, hh _ _ h3⟩
end
end K25
set_option Elab.async false
set_option linter.all false
set_option maxRecDepth 100000
set_option maxHeartbeats 4000000
namespace K25
open PySem PySem.Spec PyProof.Rows L2 Mo
/-! ### a list grows while a source is drawn from -/
def Acc (a D : Addr) (Hs : Hp) (xs : List V) (H2 : Hp) : Prop := Sr H2 a ∧ KeepBut a Hs H2 ∧ H2 D = some (.lst xs)
theorem Acc.start {a D : Addr} {Hs : Hp} (s : Sr Hs a) (hD : Hs D = none) : Acc a D Hs [] (upd Hs D (.lst [])) := ⟨s.same (same_new hD), KeepBut.of_same (same_new hD), upd_same⟩
theorem Acc.step {a D : Addr} {Hs H2 H3 : Hp} {xs : List V} (s0 : Sr Hs a) (hD : Hs D = none) (h : Acc a D Hs xs H2) (s3 : Sr H3 a) (kb : KeepBut a H2 H3) (hx : xs.length < 5000) (y : V) :
    H3 D = some (.lst xs) ∧ xs.length < sizeLine ∧ Acc a D Hs (xs ++ [y]) (upd H3 D (.lst (xs ++ [y]))) := by
  have n : D ≠ a := s0.fresh hD
  refine ⟨kb _ _ n h.2.2, lt5000 hx, ?_, ?_, upd_same⟩
  · obtain ⟨x, z, c, e⟩ := s3
    exact ⟨x, z, c, by rw [upd_ne n.symm]; exact e⟩
  · intro b o hb e
    rw [upd_ne (ne_of_none e hD)]
    exact kb _ _ hb (h.2.1 _ _ hb e)
/-! ### labels -/
def LabS (z : Str) (n : Nat) : Prop := (∀ c ∈ z.cps.toList, c ∈ lets) ∧ 1 ≤ z.length ∧ z.length ≤ n
theorem lets_sgns {c : Nat} (h : c ∈ lets) : c ∈ sgns := by
  have e : lets.all (fun c => decide (c ∈ sgns)) = true := by decide +kernel
  exact of_decide_eq_true (List.all_eq_true.mp e c h)
theorem sgns_aln {c : Nat} (h : c ∈ sgns) : Aln c = true := by
  have e : sgns.all Aln = true := by decide +kernel
  exact List.all_eq_true.mp e c h
theorem digit_cp {k : Nat} (h : k < 10) : (Str.ofString (toString (k : Int))).cps.toList = [48 + k] := by
  have : k = 0 ∨ k = 1 ∨ k = 2 ∨ k = 3 ∨ k = 4 ∨ k = 5 ∨ k = 6 ∨ k = 7 ∨ k = 8 ∨ k = 9 := by omega
  rcases this with rfl | rfl | rfl | rfl | rfl | rfl | rfl | rfl | rfl | rfl <;> decide +kernel
theorem digit_sgn {k : Nat} (h : k < 10) : 48 + k ∈ sgns := by
  have : k = 0 ∨ k = 1 ∨ k = 2 ∨ k = 3 ∨ k = 4 ∨ k = 5 ∨ k = 6 ∨ k = 7 ∨ k = 8 ∨ k = 9 := by omega
  rcases this with rfl | rfl | rfl | rfl | rfl | rfl | rfl | rfl | rfl | rfl <;> decide +kernel
theorem cutS_mem {z : Str} {lo hi : Option Int} {c : Nat} (hc : c ∈ (cutS z lo hi).cps.toList) : c ∈ z.cps.toList := by
  have hc : c ∈ ((z.cps.toList.drop (HT.sIx z.length 0 lo)).take (HT.sIx z.length z.length hi - HT.sIx z.length 0 lo)) := by
    have := hc
    simpa [cutS] using this
  exact List.mem_of_mem_drop (List.mem_of_mem_take hc)
theorem label_ok {z : Str} (h : LabS z 7) {k : Nat} (hk : k < 10) {t : Int} (t1 : 1 ≤ t) : NameS (cutS z none (some t) ++ Str.ofString (toString (k : Int)) ++ cutS z (some t) none) := by
  obtain ⟨hz, l1, l7⟩ := h
  have ecp : (cutS z none (some t) ++ Str.ofString (toString (k : Int)) ++ cutS z (some t) none).cps.toList = (cutS z none (some t)).cps.toList ++ [48 + k] ++ (cutS z (some t) none).cps.toList := by
    rw [cps_app, cps_app, digit_cp hk]
  have all : ∀ c ∈ (cutS z none (some t) ++ Str.ofString (toString (k : Int)) ++ cutS z (some t) none).cps.toList, c ∈ sgns := by
    intro c hc
    rw [ecp] at hc
    rcases List.mem_append.mp hc with hc | hc
    · rcases List.mem_append.mp hc with hc | hc
      · exact lets_sgns (hz c (cutS_mem hc))
      · rw [List.mem_singleton.mp hc]
        exact digit_sgn hk
    · exact lets_sgns (hz c (cutS_mem hc))
  have len : (cutS z none (some t) ++ Str.ofString (toString (k : Int)) ++ cutS z (some t) none).length ≤ 8 := by
    rw [app_length, app_length]
    have e1 := cut_two z (a := t) (by omega)
    have e2 : (Str.ofString (toString (k : Int))).length = 1 := by
      show (Str.ofString (toString (k : Int))).cps.size = 1
      rw [← Array.length_toList, digit_cp hk]
      rfl
    omega
  have hd : ∃ c l, (cutS z none (some t)).cps.toList = c :: l := by
    have e : (cutS z none (some t)).cps.toList = (z.cps.toList).take (min t.toNat z.length) := by
      show ((z.cps.toList.drop 0).take ((if t < 0 then (t + (z.length : Int)).toNat else min t.toNat z.length) - 0)).toArray.toList = _
      rw [if_neg (by omega)]
      simp
    rw [e]
    have lz : z.cps.toList.length = z.length := Array.length_toList
    cases hzl : z.cps.toList with
    | nil =>
      rw [hzl] at lz
      simp at lz
      omega
    | cons c l =>
      obtain ⟨n, hn⟩ : ∃ n, min t.toNat z.length = n + 1 := ⟨min t.toNat z.length - 1, by omega⟩
      rw [hn]
      exact ⟨c, l.take n, rfl⟩
  obtain ⟨c, l, hcl⟩ := hd
  refine ⟨?_, fun d hdm => sgns_aln (all d hdm), len⟩
  unfold nameB
  have f : fixedB (cutS z none (some t) ++ Str.ofString (toString (k : Int)) ++ cutS z (some t) none) = false := by
    unfold fixedB
    have m : 48 + k ∈ (cutS z none (some t) ++ Str.ofString (toString (k : Int)) ++ cutS z (some t) none).cps.toList := by
      rw [ecp]
      simp
    have no : ∀ y : Str, y.cps.toList.all (fun c => decide (60 ≤ c)) = true → (cutS z none (some t) ++ Str.ofString (toString (k : Int)) ++ cutS z (some t) none) ≠ y := by
      intro y hy e
      rw [e] at m
      have := of_decide_eq_true (List.all_eq_true.mp hy _ m)
      omega
    rw [decide_eq_false (no "nothing" (by decide +kernel)), decide_eq_false (no "yes" (by decide +kernel))]
    rfl
  have pos : 0 < (cutS z none (some t) ++ Str.ofString (toString (k : Int)) ++ cutS z (some t) none).length := by
    show 0 < (cutS z none (some t) ++ Str.ofString (toString (k : Int)) ++ cutS z (some t) none).cps.size
    rw [← Array.length_toList, ecp, hcl]
    simp
  rw [f, decide_eq_true pos, decide_eq_true len, List.all_eq_true.mpr fun c hc => decide_eq_true (all c hc)]
  have e : (cutS z none (some t) ++ Str.ofString (toString (k : Int)) ++ cutS z (some t) none).cps.toList.headD 0 ∈ lets := by
    rw [ecp, hcl]
    exact hz c (cutS_mem (by rw [hcl]; exact List.mem_cons_self))
  rw [decide_eq_true e]
  rfl
def spValues : Sp := fun vs H Q _ => ∃ (a : Addr) (m : Int), vs = [.ref a, .int m] ∧ Sr H a ∧ 0 ≤ m ∧ m ≤ 100 ∧
  ∀ (p : Addr) (xs : List V) (H' : Hp), H' p = some (.tup xs) → Vals1 xs → (xs.length : Int) = m → Sr H' a → KeepBut a H H' → Q (.ref p) H'
def spLabels : Sp := fun vs H Q _ => ∃ (a : Addr) (m : Int), vs = [.ref a, .int m] ∧ Sr H a ∧ 0 ≤ m ∧ m ≤ 10 ∧
  ∀ (p : Addr) (zs : List Str) (H' : Hp), H' p = some (.lst (zs.map V.str)) → (zs.length : Int) = m → (∀ z ∈ zs, NameS z) → Sr H' a → KeepBut a H H' → Q (.ref p) H'
def spAny : Sp := fun vs H Q _ => ∃ (a b : Addr) (zs : List Str), vs = [.ref a, .ref b] ∧ Sr H a ∧ H b = some (.lst (zs.map V.str)) ∧ 0 < zs.length ∧ zs.length ≤ 10 ∧ (∀ z ∈ zs, NameS z) ∧
  ∀ (p : Addr) (xs : List V) (H' : Hp), H' p = some (.tup xs) → MoveV xs → Sr H' a → KeepBut a H H' → Q (.ref p) H'
section
variable {P : Program} {w : World} {K : PySem.W.Frag} {mg : Str → Option Value} {base : Heap} {A : Ads}
theorem rg_len {m : Int} (h : 0 ≤ m) : ((rgV 0 m).length : Int) = m := by
  rw [rgV_length]
  omega
theorem rg_at {m : Int} {i : Nat} {x : V} (h : (rgV 0 m)[i]? = some x) : x = .int (i : Nat) ∧ (i : Int) < m := by
  unfold rgV at h
  rw [List.getElem?_map] at h
  obtain ⟨j, hj, rfl⟩ := Option.map_eq_some_iff.mp h
  obtain ⟨h1, h2⟩ := List.getElem?_eq_some_iff.mp hj
  rw [List.getElem_range] at h2
  rw [List.length_range] at h1
  subst h2
  exact ⟨by simp, by omega⟩
theorem ok_law_values (T : Txt K mg A) : FnOk P w K mg base CX0 2 A.a_law_values A.d_law_values ["_law_source", "_law_many"] spValues := by
  have nd := sc_law_values.nd
  refine T.f_law_values.ok sc_law_values (fun vs H Q E h => ?_) (fun cdv A' outer s H vs Q E hr h => ?_)
  · obtain ⟨a, m, rfl, _⟩ := h
    rfl
  · obtain ⟨a, m, rfl, src, m0, m1, k⟩ := h
    refine ⟨_, (pss_cons (ps_set (i := 2) nd rfl (Or.inr rfl) (pe_lst (pa_cons pe_non (pa_cons pe_non (pa_cons pe_str (pa_cons pe_int (pa_cons pe_int (pa_cons pe_int (pa_cons pe_int (pa_cons (pe_op op_pow pe_int pe_int) pa_nil))))))))))
      (pss_one (ps_ret (pe_callTy call_tuple_of (by rfl) T.b_tuple (by decide +kernel) (pa_cons (pe_lc (own := [("_law_turn", 3)]) (g := gName 3) (tt := tYes) rfl nd (pi_list (pe_listRg rfl (by rfl) T.b_list (prg_1 (by rfl) T.b_range (pv 1)))) (blkOk_by (N := nm_law_values) (sc := defScope st_law_values) (by decide +kernel)) (fun _ _ _ _ _ => (pg_name (i := 3) nd rfl (Or.inl rfl))) (fun _ _ _ _ _ => pts_nil) (fun _ _ _ _ _ => (pe_ix (show IxR _ (rIxL K) from ix_list) (pv 2) (pe_call (ok_law_draw T) (hr.mono (by decide)) (by rfl) T.m_law_draw T.k_law_draw T.v_law_draw .nil pass0 (pa_cons (pv 0) (pa_cons pe_int pa_nil))) (fun _ _ => rfl)))) pa_nil))))), ?_⟩
    refine ⟨_, _, rfl, rfl, ⟨by decide, by decide, by decide⟩, (by show 8 ≤ sizeLine; decide), fun p hp => ?_⟩
    have s1 := same_new (o := .lst [.non, .non, .str "yes", .int 0, .int 1, .int 2, .int 3, .int (10 ^ 30)]) hp
    refine ⟨_, rfl, m, rfl, RgOk.of_le (by omega) (by omega) (by omega) (by omega), fun q hq => ?_⟩
    have s2 := s1.trans (same_new (o := .lst (rgV 0 m)) hq)
    have hqq : (upd (upd H p (.lst [.non, .non, .str "yes", .int 0, .int 1, .int 2, .int 3, .int (10 ^ 30)])) q (.lst (rgV 0 m))) q = some (.lst (rgV 0 m)) := upd_same
    have hpp := (same_new (o := .lst (rgV 0 m)) hq) p _ (upd_same (H := H) (a := p) (o := .lst [.non, .non, .str "yes", .int 0, .int 1, .int 2, .int 3, .int (10 ^ 30)]))
    have na : p ≠ a := src.fresh hp
    have nq : q ≠ a := (src.same s1).fresh hq
    have src2 := src.same s2
    let Hs : Hp := upd (upd H p (.lst [.non, .non, .str "yes", .int 0, .int 1, .int 2, .int 3, .int (10 ^ 30)])) q (.lst (rgV 0 m))
    refine ⟨q, rfl, ⟨_, SqL.of hqq⟩, fun D hD => lc_list (K := K) (a := q) (xs := rgV 0 m) (fun i H2 => ∃ xs : List V, xs.length = i ∧ (∀ x ∈ xs, ValV x) ∧ Acc a D Hs xs H2) ⟨[], rfl, fun _ h => (List.not_mem_nil h).elim, Acc.start src2 hD⟩
      (fun i H2 _ h => SqL.of (let ⟨_, _, _, ac⟩ := h; ac.2.1 _ _ nq hqq)) ?_ ?_⟩
    · rintro i x H2 hx ⟨xs, lx, vx, ac⟩
      have hi := (rg_at hx).2
      refine ⟨rfl, _, rfl, _, rfl, a, _, rfl, ac.1, by decide, by decide, fun d H3 d0 d1 src3 kb3 => ?_⟩
      obtain ⟨y, hy, hm⟩ := at_in (l := [V.non, .non, .str "yes", .int 0, .int 1, .int 2, .int 3, .int (10 ^ 30)]) d0 d1
      have hv : ValV y := by
        simp only [List.mem_cons, List.not_mem_nil, or_false] at hm
        rcases hm with rfl | rfl | rfl | rfl | rfl | rfl | rfl | rfl
        · exact .inl rfl
        · exact .inl rfl
        · exact .inr (.inl rfl)
        · exact .inr (.inr ⟨_, rfl, by decide, by decide⟩)
        · exact .inr (.inr ⟨_, rfl, by decide, by decide⟩)
        · exact .inr (.inr ⟨_, rfl, by decide, by decide⟩)
        · exact .inr (.inr ⟨_, rfl, by decide, by decide⟩)
        · exact .inr (.inr ⟨_, rfl, by decide, by decide⟩)
      refine ⟨p, _, d, y, rfl, rfl, SqL.of (kb3 _ _ na (ac.2.1 _ _ na hpp)), hy, ?_⟩
      obtain ⟨g1, g2, g3⟩ := Acc.step src2 hD ac src3 kb3 (by omega) y
      refine ⟨xs, g1, g2, xs ++ [y], by rw [List.length_append, lx]; rfl, fun z hz => ?_, g3⟩
      rcases List.mem_append.mp hz with hz | hz
      · exact vx z hz
      · rw [List.mem_singleton.mp hz]
        exact hv
    · rintro H2 ⟨xs, lx, vx, ac⟩
      have lm : (xs.length : Int) = m := by rw [lx]; exact rg_len m0
      refine ⟨D, xs, rfl, Or.inl ⟨SqL.of ac.2.2, fun t ht => ?_⟩⟩
      refine k t xs _ upd_same ⟨by omega, vx⟩ lm (ac.1.same (same_new ht)) ((KeepBut.of_same s2).trans (ac.2.1.trans (KeepBut.of_same (same_new ht))))
end
end K25
set_option Elab.async false
set_option linter.all false
set_option maxRecDepth 100000
set_option maxHeartbeats 4000000
namespace K25
open PySem PySem.Spec PyProof.Rows L2 Mo
/-- all stays but a and f -/
def Keep2 (a f : Addr) (H H' : Hp) : Prop := ∀ b o, b ≠ a → b ≠ f → H b = some o → H' b = some o
theorem Keep2.of {a f : Addr} {H H1 H2 : Hp} (h : Keep2 a f H H1) (k : KeepBut a H1 H2) : Keep2 a f H H2 := fun b o n m e => k _ _ n (h b o n m e)
abbrev abc : Str := "abcdefghijklmnopqrstuvwxyz"
theorem LabS.add {z : Str} {n : Nat} (h : LabS z n) {c : Nat} (hc : c ∈ lets) : LabS (z ++ ⟨#[c]⟩) (n + 1) := by
  obtain ⟨h1, h2, h3⟩ := h
  refine ⟨fun d hd => ?_, ?_, ?_⟩
  · rw [cps_app] at hd
    rcases List.mem_append.mp hd with hd | hd
    · exact h1 d hd
    · have : d = c := by simpa using hd
      rw [this]
      exact hc
  · rw [app_length]
    omega
  · rw [app_length, one_length]
    omega
theorem LabS.one {c : Nat} (hc : c ∈ lets) : LabS ⟨#[c]⟩ (1 + 0) := by
  refine ⟨fun d hd => ?_, Nat.le_refl _, Nat.le_refl _⟩
  have : d = c := by simpa using hd
  rw [this]
  exact hc
section
variable {P : Program} {w : World} {K : PySem.W.Frag} {mg : Str → Option Value} {base : Heap} {A : Ads}
theorem ok_law_labels (T : Txt K mg A) : FnOk P w K mg base CX0 2 A.a_law_labels A.d_law_labels ["_law_source", "_law_many"] spLabels := by
  have nd := sc_law_labels.nd
  refine T.f_law_labels.ok sc_law_labels (fun vs H Q E h => ?_) (fun cdv A' outer s H vs Q E hr h => ?_)
  · obtain ⟨a, m, rfl, _⟩ := h
    rfl
  · obtain ⟨a, m, rfl, src, m0, m1, k⟩ := h
    refine ⟨_, (pss_cons (ps_set (i := 2) nd rfl (Or.inl rfl) pe_str)
      (pss_cons (ps_set (i := 3) nd rfl (Or.inl rfl) (pe_lst pa_nil))
      (pss_cons (ps_for PassesOwn.never rfl (pi_list (pe_listRg rfl (by rfl) T.b_list (prg_1 (by rfl) T.b_range (pv 1)))) (pg_name (i := 4) nd rfl (Or.inl rfl)) (pss_cons (ps_set (i := 5) nd rfl (Or.inl rfl) (pe_ix ix_str (pv 2) (pe_call (ok_law_draw T) (hr.mono (by decide)) (by rfl) T.m_law_draw T.k_law_draw T.v_law_draw .nil pass0 (pa_cons (pv 0) (pa_cons pe_int pa_nil))) (fun _ _ => rfl)))
      (pss_cons (ps_for PassesOwn.never rfl (pi_list (pe_listRg rfl (by rfl) T.b_list (prg_1 (by rfl) T.b_range (pe_ix ix_list (pe_lst (pa_cons pe_int (pa_cons pe_int (pa_cons pe_int (pa_cons pe_int (pa_cons pe_int pa_nil)))))) (pe_call (ok_law_draw T) (hr.mono (by decide)) (by rfl) T.m_law_draw T.k_law_draw T.v_law_draw .nil pass0 (pa_cons (pv 0) (pa_cons pe_int pa_nil))) (fun _ _ => rfl))))) (pg_name (i := 6) nd rfl (Or.inl rfl)) (pss_one (ps_set (i := 5) nd rfl (Or.inl rfl) (pe_op op_add_str (pv 5) (pe_ix ix_str (pv 2) (pe_call (ok_law_draw T) (hr.mono (by decide)) (by rfl) T.m_law_draw T.k_law_draw T.v_law_draw .nil pass0 (pa_cons (pv 0) (pa_cons pe_int pa_nil))) (fun _ _ => rfl))))))
      (pss_cons (ps_set (i := 7) nd rfl (Or.inl rfl) (pe_op op_add pe_int (pe_call (ok_law_draw T) (hr.mono (by decide)) (by rfl) T.m_law_draw T.k_law_draw T.v_law_draw .nil pass0 (pa_cons (pv 0) (pa_cons (pe_callB call_len_str (by rfl) T.b_len (by decide +kernel) (pa_cons (pv 5) pa_nil)) pa_nil)))))
      (pss_one (ps_expr (pe_bm PySem.F.plainAttrs_list PySem.F.slot_list_append PySem.F.type_list_append mt_append (pv 3) (pa_cons (pe_op op_add_str (pe_op op_add_str (pe_slice sl_str (pv 5) po_none (po_some (pv 7))) (pe_callTy call_str_int (by rfl) T.b_str (by decide +kernel) (pa_cons (pv 4) pa_nil))) (pe_slice sl_str (pv 5) (po_some (pv 7)) po_none)) pa_nil))))))))
      (pss_one (ps_ret (pv 3)))))), ?_⟩
    refine ⟨Nat.zero_le _, fun f hf => ?_⟩
    have s1 := same_new (o := .lst []) hf
    have nf : f ≠ a := src.fresh hf
    refine ⟨_, rfl, m, rfl, RgOk.of_le (by omega) (by omega) (by omega) (by omega), fun q hq => ?_⟩
    have s2 := same_new (o := .lst (rgV 0 m)) hq
    have nq : q ≠ a := (src.same s1).fresh hq
    have nqf : q ≠ f := (ne_of_none upd_same hq).symm
    have hqq : (upd (upd H f (.lst [])) q (.lst (rgV 0 m))) q = some (.lst (rgV 0 m)) := upd_same
    refine ⟨q, rfl, ⟨_, SqL.of hqq⟩, for_list (K := K) (a := q) (xs := rgV 0 m) (fun i σ H2 => ∃ (zs : List Str) (v4 v5 v6 v7 : Option V), σ = [some (.ref a), some (.int m), some (.str abc), some (.ref f), v4, v5, v6, v7] ∧ zs.length = i ∧ (∀ z ∈ zs, NameS z) ∧ Sr H2 a ∧
      Keep2 a f (upd (upd H f (.lst [])) q (.lst (rgV 0 m))) H2 ∧ H2 f = some (.lst (zs.map V.str))) ⟨[], _, _, _, _, rfl, rfl, fun _ h => (List.not_mem_nil h).elim, (src.same s1).same s2, fun b o _ _ e => e, s2 _ _ upd_same⟩ ?_ ?_ ?_⟩
    · rintro i σ H2 _ ⟨zs, v4, v5, v6, v7, rfl, _, _, _, kp, _⟩
      exact SqL.of (kp _ _ nq nqf hqq)
    · rintro i x σ H2 hx ⟨zs, v4, v5, v6, v7, rfl, lz, nz, src2, kp, hff⟩
      obtain ⟨rfl, hi⟩ := rg_at hx
      refine ⟨_, rfl, _, rfl, a, _, rfl, src2, by decide, by decide, fun d H3 d0 d1 src3 kb3 => ?_⟩
      obtain ⟨c, hc, cl⟩ := at_in (l := lets) d0 (by rw [show (lets.length : Int) = 26 from by decide +kernel]; exact d1)
      refine ⟨abc, d, c, rfl, rfl, (by decide), hc, ?_⟩
      refine ⟨(by show 5 ≤ sizeLine; decide), fun t ht => ?_⟩
      have s4 := same_new (o := .lst [.int 0, .int 0, .int 1, .int 2, .int 6]) ht
      have nt : t ≠ a := src3.fresh ht
      refine ⟨_, rfl, a, _, rfl, src3.same s4, by decide, by decide, fun d2 H5 e0 e1 src5 kb5 => ?_⟩
      obtain ⟨y, hy, ym⟩ := at_in (l := [V.int 0, .int 0, .int 1, .int 2, .int 6]) e0 e1
      obtain ⟨n, rfl, n0, n6⟩ : ∃ n : Int, y = .int n ∧ 0 ≤ n ∧ n ≤ 6 := by
        simp only [List.mem_cons, List.not_mem_nil, or_false] at ym
        rcases ym with rfl | rfl | rfl | rfl | rfl <;> exact ⟨_, rfl, by decide, by decide⟩
      refine ⟨t, _, d2, _, rfl, rfl, SqL.of (kb5 _ _ nt upd_same), hy, n, rfl, RgOk.of_le (by omega) (by omega) (by omega) (by omega), fun q2 hq2 => ?_⟩
      have s6 := same_new (o := .lst (rgV 0 n)) hq2
      have nq2 : q2 ≠ a := src5.fresh hq2
      have hqq2 : (upd H5 q2 (.lst (rgV 0 n))) q2 = some (.lst (rgV 0 n)) := upd_same
      have kp6 : Keep2 a f (upd (upd H f (.lst [])) q (.lst (rgV 0 m))) (upd H5 q2 (.lst (rgV 0 n))) := (((kp.of kb3).of (KeepBut.of_same s4)).of kb5).of (KeepBut.of_same s6)
      have hf6 : (upd H5 q2 (.lst (rgV 0 n))) f = some (.lst (zs.map V.str)) := s6 _ _ (kb5 _ _ nf (s4 _ _ (kb3 _ _ nf hff)))
      refine ⟨q2, rfl, ⟨_, SqL.of hqq2⟩, for_list (K := K) (a := q2) (xs := rgV 0 n) (fun j σ H7 => ∃ (z : Str) (v6 v7 : Option V), σ = [some (.ref a), some (.int m), some (.str abc), some (.ref f), some (.int (i : Nat)), some (.str z), v6, v7] ∧ LabS z (1 + j) ∧ Sr H7 a ∧
        KeepBut a (upd H5 q2 (.lst (rgV 0 n))) H7) ⟨_, _, _, rfl, LabS.one cl, src5.same s6, KeepBut.refl _ _⟩ ?_ ?_ ?_⟩
      · rintro j σ H7 _ ⟨z, w6, w7, rfl, _, _, kb7⟩
        exact SqL.of (kb7 _ _ nq2 hqq2)
      · rintro j x σ H7 hx ⟨z, w6, w7, rfl, lab, src7, kb7⟩
        have hj := (rg_at hx).2
        refine ⟨_, rfl, _, rfl, _, rfl, a, _, rfl, src7, by decide, by decide, fun d H8 d0 d1 src8 kb8 => ?_⟩
        obtain ⟨c2, hc2, cl2⟩ := at_in (l := lets) d0 (by rw [show (lets.length : Int) = 26 from by decide +kernel]; exact d1)
        refine ⟨abc, d, c2, rfl, rfl, (by decide), hc2, z, ⟨#[c2]⟩, rfl, rfl, ?_, ?_⟩
        · have := lab.2.2
          rw [one_length]
          exact len5000 (by omega)
        · exact ⟨_, _, _, rfl, lab.add cl2, src8, kb7.trans kb8⟩
      · rintro σ H7 ⟨z, w6, w7, rfl, lab, src7, kb7⟩
        rw [rgV_length] at lab
        have lab : LabS z 7 := ⟨lab.1, lab.2.1, by have := lab.2.2; omega⟩
        have lz5 : z.length ≤ sizeLine := len5000 (by have := lab.2.2; omega)
        refine ⟨_, rfl, _, rfl, z, rfl, lz5, a, _, rfl, src7, (by have := lab.2.1; omega), (by have := lab.2.2; omega), fun d H8 d0 d1 src8 kb8 => ⟨_, _, rfl, rfl, ?_⟩⟩
        have ff : H8 f = some (.lst (zs.map V.str)) := kb8 _ _ nf (kb7 _ _ nf hf6)
        refine ⟨_, rfl, Or.inl ⟨rfl, _, SqL.of ff⟩, _, rfl, _, rfl, _, rfl, z, rfl, lz5, ?_⟩
        refine ⟨_, rfl, _, rfl, log31 (by omega) (by omega), ?_⟩
        have hn := label_ok lab (k := i) (by omega) (t := 1 + d) (by omega)
        have ln := hn.2.2
        rw [app_length, app_length] at ln
        refine ⟨_, _, rfl, rfl, ?_, _, rfl, _, rfl, _, rfl, z, rfl, lz5, ?_⟩
        · exact len5000 (Nat.le_trans (Nat.le_trans (Nat.le_add_right _ _) ln) (by decide))
        · refine ⟨_, _, rfl, rfl, ?_, f, _, _, rfl, rfl, ff, ?_, ?_⟩
          · rw [app_length]
            exact len5000 (Nat.le_trans ln (by decide))
          · rw [List.length_map]
            exact lt5000 (by omega)
          · refine ⟨zs ++ [_], _, _, _, _, rfl, by rw [List.length_append, lz]; rfl, fun y hy => ?_, ?_, ?_, by rw [upd_same, List.map_append]; rfl⟩
            · rcases List.mem_append.mp hy with hy | hy
              · exact nz y hy
              · rw [List.mem_singleton.mp hy]
                exact hn
            · obtain ⟨x1, y1, c1, e⟩ := src8
              exact ⟨x1, y1, c1, by rw [upd_ne nf.symm]; exact e⟩
            · intro b o n1 n2 e
              rw [upd_ne n2]
              exact kb8 _ _ n1 (kb7 _ _ n1 (kp6 _ _ n1 n2 e))
    · rintro σ H2 ⟨zs, v4, v5, v6, v7, rfl, lz, nz, src2, kp, hff⟩
      refine ⟨_, rfl, k f zs H2 hff ?_ nz src2 ?_⟩
      · rw [lz]
        exact rg_len m0
      · intro b o hb e
        exact kp _ _ hb (ne_of_none e hf) (s2 _ _ (s1 _ _ e))
end
end K25
set_option Elab.async false
set_option linter.all false
set_option maxRecDepth 100000
set_option maxHeartbeats 4000000
namespace K25
open PySem PySem.Spec PyProof.Rows L2 Mo
section
variable {P : Program} {w : World} {K : PySem.W.Frag} {mg : Str → Option Value} {base : Heap} {A : Ads}
theorem ok_law_any (T : Txt K mg A) : FnOk P w K mg base CX0 2 A.a_law_any A.d_law_any ["_law_source", "_law_boxes"] spAny := by
  have nd := sc_law_any.nd
  refine T.f_law_any.ok sc_law_any (fun vs H Q E h => ?_) (fun cdv A' outer s H vs Q E hr h => ?_)
  · obtain ⟨a, b, zs, rfl, _⟩ := h
    rfl
  · obtain ⟨a, b, zs, rfl, src, hb, l0, l1, nz, k⟩ := h
    have nb : b ≠ a := src.ne hb (by
      intro x y c z
      injection z with z
      cases zs with
      | nil => cases z
      | cons _ _ => cases z)
    refine ⟨_, (pss_cons (ps_set (i := 2) nd rfl (Or.inl rfl) (pe_ix ix_list (pv 1) (pe_call (ok_law_draw T) (hr.mono (by decide)) (by rfl) T.m_law_draw T.k_law_draw T.v_law_draw .nil pass0 (pa_cons (pv 0) (pa_cons (pe_callB call_len_seq (by rfl) T.b_len (by decide +kernel) (pa_cons (pv 1) pa_nil)) pa_nil))) (fun _ _ => rfl)))
      (pss_cons (ps_set (i := 3) nd rfl (Or.inl rfl) (pe_ix ix_list (pe_lst (pa_cons pe_str (pa_cons pe_str (pa_cons pe_str (pa_cons pe_str (pa_cons pe_str (pa_cons pe_str pa_nil))))))) (pe_call (ok_law_draw T) (hr.mono (by decide)) (by rfl) T.m_law_draw T.k_law_draw T.v_law_draw .nil pass0 (pa_cons (pv 0) (pa_cons pe_int pa_nil))) (fun _ _ => rfl)))
      (pss_cons (ps_if (pt_cmpR op_eq (pv 3) pe_str (nomark _)) (pss_one (ps_ret (pe_tup (pa_cons (pv 3) pa_nil)))) pss_nil)
      (pss_cons (ps_if (pt_cmpR op_in_seq (pv 3) (pe_lst (pa_cons pe_str (pa_cons pe_str pa_nil))) (by rfl)) (pss_one (ps_ret (pe_tup (pa_cons (pv 3) (pa_cons (pv 2) pa_nil))))) pss_nil)
      (pss_cons (ps_set (i := 4) nd rfl (Or.inl rfl) (pe_op op_cat (pe_lst (pa_cons pe_int (pa_cons pe_int (pa_cons pe_int (pa_cons pe_int (pa_cons pe_int (pa_cons (pe_op op_pow pe_int pe_int) pa_nil))))))) (pe_op op_rep (pe_lst (pa_cons pe_str pa_nil)) (pe_callTy call_int1 (by rfl) T.b_int (by decide +kernel) (pa_cons (pe_cmpR op_ne (pv 3) pe_str (nomark _)) pa_nil)))))
      (pss_one (ps_ret (pe_tup (pa_cons (pv 3) (pa_cons (pv 2) (pa_cons (pe_ix ix_list (pv 4) (pe_call (ok_law_draw T) (hr.mono (by decide)) (by rfl) T.m_law_draw T.k_law_draw T.v_law_draw .nil pass0 (pa_cons (pv 0) (pa_cons (pe_callB call_len_seq (by rfl) T.b_len (by decide +kernel) (pa_cons (pv 4) pa_nil)) pa_nil))) (fun _ _ => rfl)) pa_nil))))))))))), ?_⟩
    refine ⟨_, rfl, _, rfl, _, rfl, b, _, rfl, Or.inl (SqL.of hb), a, _, rfl, src, (by rw [List.length_map]; omega), (by rw [List.length_map]; omega), fun d H2 d0 d1 src2 kb2 => ?_⟩
    obtain ⟨v, hv, vm⟩ := at_in (l := zs.map V.str) d0 d1
    obtain ⟨z, zm, rfl⟩ := List.mem_map.mp vm
    refine ⟨b, _, d, _, rfl, rfl, SqL.of (kb2 _ _ nb hb), hv, ?_⟩
    refine ⟨(by show 6 ≤ sizeLine; decide), fun t ht => ?_⟩
    have s3 := same_new (o := .lst [.str "step", .str "look", .str "fill", .str "empty", .str "change", .str "renew"]) ht
    have nt : t ≠ a := src2.fresh ht
    refine ⟨_, rfl, a, _, rfl, src2.same s3, by decide, by decide, fun d2 H4 e0 e1 src4 kb4 => ?_⟩
    obtain ⟨y, hy, ym⟩ := at_in (l := [V.str "step", .str "look", .str "fill", .str "empty", .str "change", .str "renew"]) e0 e1
    have kb : KeepBut a H H4 := (kb2.trans (KeepBut.of_same s3)).trans kb4
    obtain ⟨kd, rfl, hk⟩ : ∃ kd : String, y = .str (Str.ofString kd) ∧ (kd = "step" ∨ (kd = "look" ∨ kd = "empty") ∨ (kd = "fill" ∨ kd = "change" ∨ kd = "renew")) := by
      simp only [List.mem_cons, List.not_mem_nil, or_false] at ym
      rcases ym with rfl | rfl | rfl | rfl | rfl | rfl
      · exact ⟨_, rfl, by simp⟩
      · exact ⟨_, rfl, by simp⟩
      · exact ⟨_, rfl, by simp⟩
      · exact ⟨_, rfl, by simp⟩
      · exact ⟨_, rfl, by simp⟩
      · exact ⟨_, rfl, by simp⟩
    refine ⟨t, _, d2, _, rfl, rfl, SqL.of (kb4 _ _ nt upd_same), hy, ?_⟩
    refine ⟨_, rfl, rfl, _, rfl, ?_⟩
    rcases hk with rfl | hk | hk
    · rw [show decide (V.str (Str.ofString "step") = V.str "step") = true by decide +kernel]
      refine iteT ?_
      refine ⟨_, rfl, (by show 1 ≤ sizeLine; decide), fun p hp => ?_⟩
      exact k p _ _ upd_same (.inl rfl) (src4.same (same_new hp)) (kb.trans (KeepBut.of_same (same_new hp)))
    · have h1 : decide (V.str (Str.ofString kd) = V.str "step") = false ∧ inV (.str (Str.ofString kd)) [.str "look", .str "empty"] = true := by
        rcases hk with rfl | rfl <;> exact ⟨by decide +kernel, by decide +kernel⟩
      rw [h1.1]
      refine iteF ?_
      refine ⟨_, rfl, (by show 2 ≤ sizeLine; decide), fun u hu => ⟨u, _, rfl, Or.inl (SqL.of upd_same), rfl, rfl, _, rfl, ?_⟩⟩
      refine (if_pos h1.2).mpr ?_
      refine ⟨_, rfl, _, rfl, (by show 2 ≤ sizeLine; decide), fun p hp => ?_⟩
      have sx := (same_new (o := .lst [.str "look", .str "empty"]) hu).trans (same_new (o := .tup [.str (Str.ofString kd), .str z]) hp)
      exact k p _ _ upd_same (.inr (.inl ⟨kd, z, hk, rfl, nz z zm⟩)) (src4.same sx) (kb.trans (KeepBut.of_same sx))
    · have h1 : decide (V.str (Str.ofString kd) = V.str "step") = false ∧ inV (.str (Str.ofString kd)) [.str "look", .str "empty"] = false := by
        rcases hk with rfl | rfl | rfl <;> exact ⟨by decide +kernel, by decide +kernel⟩
      rw [h1.1]
      refine iteF ?_
      refine ⟨_, rfl, (by show 2 ≤ sizeLine; decide), fun u hu => ⟨u, _, rfl, Or.inl (SqL.of upd_same), rfl, rfl, _, rfl, ?_⟩⟩
      refine (if_neg (Bool.eq_false_iff.mp h1.2)).mpr ?_
      refine ⟨_, _, rfl, rfl, ⟨by decide, by decide, by decide⟩, (by show 6 ≤ sizeLine; decide), fun r1 g1 => ⟨(by show 1 ≤ sizeLine; decide), fun r2 g2 => ⟨_, rfl, rfl, Or.inr ⟨_, rfl, ?_⟩⟩⟩⟩
      have hc0 : (!decide (V.str (Str.ofString kd) = V.str (Str.ofString "renew"))) = true → kd ≠ "renew" := by
        rintro h rfl
        simp at h
      revert hc0
      generalize (!decide (V.str (Str.ofString kd) = V.str (Str.ofString "renew"))) = c
      intro hc0
      have hys : ∃ ys : List V, (List.replicate (if c = true then (1 : Int) else 0).toNat [V.str "yes"]).flatten = ys ∧ ys.length ≤ 1 ∧ ∀ y ∈ ys, y = .str "yes" ∧ kd ≠ "renew" := by
        cases c with
        | true => exact ⟨[.str "yes"], rfl, Nat.le_refl _, fun y hy => ⟨List.mem_singleton.mp hy, hc0 rfl⟩⟩
        | false => exact ⟨[], rfl, Nat.zero_le _, fun y hy => (List.not_mem_nil hy).elim⟩
      obtain ⟨ys, eys, ly, hys⟩ := hys
      refine ⟨r2, _, _, rfl, rfl, upd_same, ?_, ?_, ?_, fun r3 g3 => ?_⟩
      · cases c <;> decide
      · cases c <;> decide
      · cases c <;> decide
      · rw [eys] at *
        have u0 := same_new (o := .lst [.str "look", .str "empty"]) hu
        have u1 := same_new (o := .lst [.int 0, .int 1, .int 2, .int 3, .int 7, .int (10 ^ 30)]) g1
        have u2 := same_new (o := .lst [.str "yes"]) g2
        have u3 := same_new (o := .lst ys) g3
        refine ⟨r1, r3, [.int 0, .int 1, .int 2, .int 3, .int 7, .int (10 ^ 30)], ys, rfl, rfl, (u2.trans u3) _ _ upd_same, upd_same, len5000 (by show 6 + ys.length ≤ 5000; omega), fun r4 g4 => ?_⟩
        have u4 := same_new (o := .lst ([.int 0, .int 1, .int 2, .int 3, .int 7, .int (10 ^ 30)] ++ ys)) g4
        have sx := (u0.trans u1).trans (u2.trans (u3.trans u4))
        have src9 := src4.same sx
        have n4 : r4 ≠ a := (src4.same ((u0.trans u1).trans (u2.trans u3))).fresh g4
        have lx : (([.int 0, .int 1, .int 2, .int 3, .int 7, .int (10 ^ 30)] ++ ys : List V).length : Int) = 6 + ys.length := by
          rw [List.length_append]
          rfl
        refine ⟨_, rfl, _, rfl, _, rfl, _, rfl, _, rfl, r4, _, rfl, Or.inl (SqL.of upd_same), a, _, rfl, src9, (by rw [lx]; omega), (by rw [lx]; omega), fun d3 H9 f0 f1 src10 kb10 => ?_⟩
        obtain ⟨v, hv, vm⟩ := at_in f0 f1
        refine ⟨r4, _, d3, v, rfl, rfl, SqL.of (kb10 _ _ n4 upd_same), hv, (by show 3 ≤ sizeLine; decide), fun p hp => ?_⟩
        refine k p _ _ upd_same (.inr (.inr ⟨kd, z, v, hk, rfl, nz z zm, ?_⟩)) (src10.same (same_new hp)) ((kb.trans (KeepBut.of_same sx)).trans (kb10.trans (KeepBut.of_same (same_new hp))))
        rcases List.mem_append.mp vm with vm | vm
        · simp only [List.mem_cons, List.not_mem_nil, or_false] at vm
          rcases vm with rfl | rfl | rfl | rfl | rfl | rfl <;> exact .inl ⟨_, rfl, by decide, by decide⟩
        · obtain ⟨rfl, hne⟩ := hys v vm
          exact .inr ⟨hne, rfl⟩
end
end K25
set_option Elab.async false
set_option linter.all false
set_option maxRecDepth 100000
set_option maxHeartbeats 4000000
namespace K25
open PySem PySem.Spec PyProof.Rows L2 Mo
/-- a row in a list -/
def RowAt (H : Hp) (q : Addr) (r : Row) : Prop := ∃ pg pf pm, H q = some (.lst [.ref pg, .ref pf, .ref pm]) ∧ H pg = some (.tup r.g) ∧ H pf = some (.tup r.f) ∧ MovesAt H pm r.ms
theorem RowAt.same {H H' : Hp} {q : Addr} {r : Row} (h : RowAt H q r) (e : Same H H') : RowAt H' q r := by
  obtain ⟨pg, pf, pm, h1, h2, h3, h4⟩ := h
  exact ⟨pg, pf, pm, e _ _ h1, e _ _ h2, e _ _ h3, h4.same e⟩
section
variable {P : Program} {w : World} {K : PySem.W.Frag} {mg : Str → Option Value} {base : Heap} {A : Ads}
theorem dp_row {H : Hp} {q : Addr} {r : Row} (h : RowAt H q r) (ok : r.Ok) : Dp K H (.ref q) r.lD := by
  obtain ⟨pg, pf, pm, h1, h2, h3, h4⟩ := h
  exact .lst (SqL.of h1) (.cons (dp_vals h2 ok.g) (.cons (dp_vals h3 ok.f) (.cons (dp_moves h4 ok.ms) .nil)))
def spParts (A : Ads) : Sp := fun vs H Q _ => ∃ (a : Addr) (r : Row), vs = [.ref a] ∧ Run1 A H a r ∧ r.Ok ∧ ∀ H', Same H H' → Q (.str r.told.shown) H'
theorem ok_law_parts (T : Txt K mg A) : FnG P w K mg base CX0 6 A.a_law_parts A.d_law_parts ["_law_made"] (spParts A) := by
  have nd := sc_law_parts.nd
  refine Fun_okG T.f_law_parts sc_law_parts (fun vs H Q E h => ?_) (fun cdv A' outer s H vs Q E hr hG h => ?_)
  · obtain ⟨a, r, rfl, _⟩ := h
    rfl
  · obtain ⟨a, r, rfl, run, ok, k⟩ := h
    refine ⟨_, (pss_one (ps_ret (pe_callB (call_repr hr hG) (by rfl) T.b_repr (by decide +kernel) (pa_cons (pe_lst (pa_cons (pe_prop (pv 0) T.cl_Run T.pr_Run_arguments (ok_Run_arguments T) (hr.mono (by decide)) T.v_Run_arguments .nil pass0 rfl) (pa_cons (pe_prop (pv 0) T.cl_Run T.pr_Run_store (ok_Run_store T) (hr.mono (by decide)) T.v_Run_store .nil pass0 rfl) (pa_cons (pe_prop (pv 0) T.cl_Run T.pr_Run_moves (ok_Run_moves T) (hr.mono (by decide)) T.v_Run_moves .nil pass0 rfl) (pa_cons (pe_prop (pv 0) T.cl_Run T.pr_Run_steps (ok_Run_steps T) (hr.mono (by decide)) T.v_Run_steps .nil pass0 rfl) (pa_cons (pe_callB (call_reprO (ok_Run___repr__ T) (hr.mono (by decide)) T.sp_Run___repr__ T.v_Run___repr__ pass0) (by rfl) T.b_repr (by decide +kernel) (pa_cons (pv 0) pa_nil)) pa_nil)))))) pa_nil)))), ?_⟩
    obtain ⟨dx, pt, pg, pf, pm, ha, ht, hg, hf, hm⟩ := id run
    refine ⟨_, rfl, a, dx, _, rfl, ha, a, dx, pt, pg, pf, pm, rfl, ha, ht, ?_⟩
    refine ⟨_, rfl, a, dx, _, rfl, ha, a, dx, pt, pg, pf, pm, rfl, ha, ht, ?_⟩
    refine ⟨_, rfl, a, dx, _, rfl, ha, a, dx, pt, pg, pf, pm, rfl, ha, ht, ?_⟩
    refine ⟨_, rfl, a, dx, _, rfl, ha, a, r, rfl, run, ok, fun H1 s1 => ?_⟩
    refine ⟨_, rfl, a, dx, _, rfl, s1 _ _ ha, a, r, rfl, run.same s1, ok, _, rfl, ?_⟩
    refine ⟨(by show 5 ≤ sizeLine; decide), fun p hp => ?_⟩
    have s2 := s1.trans (same_new (o := .lst [.ref pg, .ref pf, .ref pm, .int (stepsN r.ms : Nat), .str (lineS r.ms.length)]) hp)
    have dp : Dp K (upd H1 p (.lst [.ref pg, .ref pf, .ref pm, .int (stepsN r.ms : Nat), .str (lineS r.ms.length)])) (.ref p) r.told :=
      .lst (SqL.of upd_same) (.cons (dp_vals (s2 _ _ hg) ok.g) (.cons (dp_vals (s2 _ _ hf) ok.f) (.cons (dp_moves (hm.same s2) ok.ms) (.cons (.int _) (.cons (.str _) .nil)))))
    exact ⟨p, r.told, rfl, dp, (show_plain ok.plT).1, (show_plain ok.plT).2, Nat.le_trans r.depthT (by decide), ok.lenT, k _ s2⟩
def spDue : Sp := fun vs H Q _ => ∃ (q : Addr) (r : Row), vs = [.ref q] ∧ RowAt H q r ∧ r.Ok ∧ ∀ H', Same H H' → Q (.str r.told.shown) H'
theorem ok_law_due (T : Txt K mg A) : FnG P w K mg base CX0 3 A.a_law_due A.d_law_due ["_law_row"] spDue := by
  have nd := sc_law_due.nd
  refine Fun_okG T.f_law_due sc_law_due (fun vs H Q E h => ?_) (fun cdv A' outer s H vs Q E hr hG h => ?_)
  · obtain ⟨a, r, rfl, _⟩ := h
    rfl
  · obtain ⟨q, r, rfl, ⟨pg, pf, pm, h1, h2, h3, h4⟩, ok, k⟩ := h
    refine ⟨_, (pss_cons (ps_set (i := 1) nd rfl (Or.inl rfl) (pe_op op_add_str (pe_op op_add_str pe_str (pe_callTy call_str_int (by rfl) T.b_str (by decide +kernel) (pa_cons (pe_callB call_len_seq (by rfl) T.b_len (by decide +kernel) (pa_cons (pe_ix ix_list (pv 0) pe_int (fun _ _ => rfl)) pa_nil)) pa_nil))) pe_str))
      (pss_one (ps_ret (pe_callB (call_repr hr hG) (by rfl) T.b_repr (by decide +kernel) (pa_cons (pe_op op_cat (pv 0) (pe_lst (pa_cons (pe_bmX PySem.F.slot_tuple_count PySem.F.type_tuple_count (mt_tcount (un66 hr)) (pe_ix ix_list (pv 0) pe_int (fun _ _ => rfl)) (pa_cons (pe_tup (pa_cons pe_str pa_nil)) pa_nil)) (pa_cons (pv 1) pa_nil)))) pa_nil))))), ?_⟩
    obtain ⟨qs, g1, g2, g3⟩ := id h4
    have l1 : ((List.map V.ref qs).length : Int) = (r.ms.length : Int) := by rw [List.length_map, g2]
    refine ⟨_, rfl, q, _, _, _, rfl, rfl, SqL.of h1, atI_nat (j := 2) rfl, pm, _, rfl, Or.inr g1.sq, _, rfl, ?_, ?_⟩
    · have := ok.ms.1
      exact log31 (by omega) (by rw [l1]; omega)
    rw [l1]
    have hb := lineS_len ok.ms.1
    have hb2 : ((("Run(" : Str) ++ Str.ofString (toString (r.ms.length : Int)))).length ≤ (lineS r.ms.length).length := by
      unfold lineS
      rw [app_length (("Run(" : Str) ++ Str.ofString (toString (r.ms.length : Int)))]
      omega
    refine ⟨_, _, rfl, rfl, ?_, _, _, rfl, rfl, ?_, ?_⟩
    · rw [← app_length]
      exact Nat.le_trans hb2 (Nat.le_trans hb (by decide))
    · rw [← app_length]
      exact Nat.le_trans hb (by decide)
    refine ⟨_, rfl, _, rfl, q, _, _, _, rfl, rfl, SqL.of h1, atI_nat (j := 2) rfl, ⟨pm, _, rfl, g1⟩, (by show 1 ≤ sizeLine; decide), fun p hp => ?_⟩
    have s1 := same_new (o := .tup [.str "step"]) hp
    obtain ⟨qs', i1, i2, i3⟩ := h4.same s1
    refine ⟨pm, _, stepD, _, _, rfl, rfl, i1.sq, dp_ms i2 i3 ok.ms.2, dp_step upd_same, lay_plainAll (plAll_tD ok.ms.2), sh_step, ?_⟩
    refine ⟨_, rfl, (by show 2 ≤ sizeLine; decide), fun p2 hp2 => ?_⟩
    have s2 := same_new (o := .lst [.int (stepsN r.ms : Nat), .str (lineS r.ms.length)]) hp2
    refine ⟨q, p2, [.ref pg, .ref pf, .ref pm], [.int (stepsN r.ms : Nat), .str (lineS r.ms.length)], rfl, rfl, (s1.trans s2) _ _ h1, upd_same, (by show 5 ≤ sizeLine; decide), fun p3 hp3 => ?_⟩
    have s3 := same_new (o := .lst ([.ref pg, .ref pf, .ref pm] ++ [.int (stepsN r.ms : Nat), .str (lineS r.ms.length)])) hp3
    have sx := s1.trans (s2.trans s3)
    have dp : Dp K _ (.ref p3) r.told :=
      .lst (SqL.of upd_same) (.cons (dp_vals (sx _ _ h2) ok.g) (.cons (dp_vals (sx _ _ h3) ok.f) (.cons (dp_moves (h4.same sx) ok.ms) (.cons (.int _) (.cons (.str _) .nil)))))
    exact ⟨p3, r.told, rfl, dp, (show_plain ok.plT).1, (show_plain ok.plT).2, Nat.le_trans r.depthT (by decide), ok.lenT, k _ sx⟩
end
end K25
set_option Elab.async false
set_option linter.all false
set_option maxRecDepth 100000
set_option maxHeartbeats 4000000
namespace K25
open PySem PySem.Spec PyProof.Rows L2 Mo
/-! ### lists of rows and of runs -/
def LsAt (R : Hp → Addr → Row → Prop) (H : Hp) (l : Addr) (rs : List Row) : Prop := ∃ as : List Addr, H l = some (.lst (as.map V.ref)) ∧ as.length = rs.length ∧ ∀ (i : Nat) (a : Addr) (r : Row), as[i]? = some a → rs[i]? = some r → R H a r
theorem LsAt.same {R : Hp → Addr → Row → Prop} (hR : ∀ {H H' : Hp} {a : Addr} {r : Row}, R H a r → Same H H' → R H' a r) {H H' : Hp} {l : Addr} {rs : List Row} (h : LsAt R H l rs) (e : Same H H') : LsAt R H' l rs := by
  obtain ⟨as, h1, h2, h3⟩ := h
  exact ⟨as, e _ _ h1, h2, fun i a r x y => hR (h3 i a r x y) e⟩
abbrev RowsAt := LsAt RowAt
abbrev RunsAt (A : Ads) := LsAt (Run1 A)
theorem RowsAt.same {H H' : Hp} {l : Addr} {rs : List Row} (h : RowsAt H l rs) (e : Same H H') : RowsAt H' l rs := LsAt.same (R := RowAt) (fun h e => RowAt.same h e) h e
theorem RunsAt.same {A : Ads} {H H' : Hp} {l : Addr} {rs : List Row} (h : RunsAt A H l rs) (e : Same H H') : RunsAt A H' l rs := LsAt.same (R := Run1 A) (fun h e => RunAt.same h e) h e
theorem LsAt.cat {R : Hp → Addr → Row → Prop} (hR : ∀ {H H' : Hp} {a : Addr} {r : Row}, R H a r → Same H H' → R H' a r) {H H' : Hp} {l m u : Addr} {rs ss : List Row} {as bs : List Addr} (e : Same H H') (hu : H' u = some (.lst (as.map V.ref ++ bs.map V.ref)))
    (l1 : as.length = rs.length) (l2 : bs.length = ss.length) (h1 : ∀ (i : Nat) (a : Addr) (r : Row), as[i]? = some a → rs[i]? = some r → R H a r) (h2 : ∀ (i : Nat) (a : Addr) (r : Row), bs[i]? = some a → ss[i]? = some r → R H a r) : LsAt R H' u (rs ++ ss) := by
  refine ⟨as ++ bs, by rw [List.map_append]; exact hu, by rw [List.length_append, List.length_append, l1, l2], fun i a r x y => hR ?_ e⟩
  rw [List.getElem?_append] at x y
  rw [← l1] at y
  split at x
  · rename_i hi
    rw [if_pos hi] at y
    exact h1 i a r x y
  · rename_i hi
    rw [if_neg hi] at y
    exact h2 _ a r x y
theorem ls_at {R : Hp → Addr → Row → Prop} {H : Hp} {rs : List Row} {as : List Addr} (l1 : as.length = rs.length) (h1 : ∀ (i : Nat) (a : Addr) (r : Row), as[i]? = some a → rs[i]? = some r → R H a r) {i : Nat} {x : V} (hx : (as.map V.ref)[i]? = some x) :
    ∃ a r, x = .ref a ∧ rs[i]? = some r ∧ r ∈ rs ∧ R H a r := by
  rw [List.getElem?_map] at hx
  obtain ⟨a, ha, rfl⟩ := Option.map_eq_some_iff.mp hx
  have hi : i < rs.length := by
    rw [← l1]
    exact (List.getElem?_eq_some_iff.mp ha).1
  have hr : rs[i]? = some rs[i] := by simp [hi]
  exact ⟨a, rs[i], rfl, hr, List.getElem_mem hi, h1 i a _ ha hr⟩
theorem lay_bools : ∀ l : List Bool, PyData.canLayAll0 (l.map PyData.bool) = true ∧ PyData.depthAll (l.map PyData.bool) = 0
  | [] => ⟨rfl, rfl⟩
  | y :: l => by
    obtain ⟨h1, h2⟩ := lay_bools l
    constructor
    · show (true && PyData.canLayAll0 (l.map PyData.bool)) = true
      rw [h1]
      rfl
    · show max 0 (PyData.depthAll (l.map PyData.bool)) = 0
      rw [h2]
      rfl
theorem shaped_bools (l : List Bool) : SeqAt.shaped (.list (l.map PyData.bool)) = true := by
  obtain ⟨h1, h2⟩ := lay_bools l
  unfold SeqAt.shaped
  rw [Bool.and_eq_true]
  refine ⟨h1, decide_eq_true ?_⟩
  show PyData.depthAll (l.map PyData.bool) + 1 ≤ 64
  omega
theorem eqv_self {d : PyData} (h : SeqAt.shaped d = true) : PyData.eqv d d = true := SeqAt.eqv_refl d (SeqAt.canLay_of_shaped h)
/-- one step of a list of known values -/
theorem known_step {Hs H2 H5 : Hp} {D : Addr} {ys : List V} {i : Nat} {y : V} (hD : Hs D = none) (h1 : Same Hs H2) (h2 : H2 D = some (.lst (ys.take i))) (h3 : Same H2 H5) (hy : ys[i]? = some y) (hl : ys.length < 5000) :
    ∃ acc, H5 D = some (.lst acc) ∧ acc.length < sizeLine ∧ (Same Hs (upd H5 D (.lst (acc ++ [y]))) ∧ (upd H5 D (.lst (acc ++ [y]))) D = some (.lst (ys.take (i + 1)))) := by
  refine ⟨ys.take i, h3 _ _ h2, ?_, ?_, ?_⟩
  · rw [List.length_take]
    exact lt5000 (by omega)
  · intro b o e
    rw [upd_ne (ne_of_none e hD)]
    exact h3 _ _ (h1 _ _ e)
  · rw [upd_same, List.take_add_one, hy]
    rfl
section
variable {P : Program} {w : World} {K : PySem.W.Frag} {mg : Str → Option Value} {base : Heap} {A : Ads}
/-- the end of the check: what is told and compared -/
theorem right_end (T : Txt K mg A) {cdv : Value} {A' : Around} {outer : List Env} {s : Shared} {H : Hp} {Q : VK} {E : XK} (hr : Room 9 (A'.deeper (envOfC "_law_right" (defScope st_law_right) s.heap.objs.size A.a_law_right cdv)))
    (hG : (A'.deeper (envOfC "_law_right" (defScope st_law_right) s.heap.objs.size A.a_law_right cdv)).guards = some []) :
    ∃ t, PSs (cxOf CX0 P w K mg base nm_law_right "_law_right" (defScope st_law_right) A.a_law_right cdv A' outer s H E).nox ((defBody st_law_right).drop 12) t ∧
      ∀ (H0 : Hp) (v0 v1 : Option V) (pg pf pm lr ls lm : Addr) (v4 v6 v7 : Option V) (rs : List Row), (∃ ys, TX H0 pm ys) → RowsAt H0 lr rs → RunsAt A H0 ls rs → RunsAt A H0 lm rs → 0 < rs.length → rs.length ≤ 10 → (∀ r ∈ rs, r.Ok) →
        (∀ H', Same H0 H' → Q (.bl true) H') → t { nx := fun _ H' => Q .non H', rt := Q } [v0, v1, some (.ref pg), some (.ref pf), v4, some (.ref pm), v6, v7, some (.ref lr), some (.ref ls), some (.ref lm), none, none, none, none, none] H0 := by
  have nd := sc_law_right.nd
  refine ⟨_, (pss_cons (ps_if (pt_cmpR (op_neD hr.units) (pe_lc (own := [("_law_made", 14)]) (g := gName 14) (tt := tYes) rfl nd (pi_list (pe_op op_cat (pv 9) (pv 10))) (blkOk_by (N := nm_law_right) (sc := defScope st_law_right) (by decide +kernel)) (fun _ _ _ _ _ => (pg_name (i := 14) nd rfl (Or.inl rfl))) (fun _ _ _ _ _ => pts_nil) (fun _ _ _ _ _ => (pe_callG (ok_law_parts T) (hr.mono (by decide)) hG (by rfl) T.m_law_parts T.k_law_parts T.v_law_parts .nil pass0 (pa_cons (pv 14) pa_nil)))) (pe_lc (own := [("_law_row", 13)]) (g := gName 13) (tt := tYes) rfl nd (pi_list (pe_op op_cat (pv 8) (pv 8))) (blkOk_by (N := nm_law_right) (sc := defScope st_law_right) (by decide +kernel)) (fun _ _ _ _ _ => (pg_name (i := 13) nd rfl (Or.inl rfl))) (fun _ _ _ _ _ => pts_nil) (fun _ _ _ _ _ => (pe_callG (ok_law_due T) (hr.mono (by decide)) hG (by rfl) T.m_law_due T.k_law_due T.v_law_due .nil pass0 (pa_cons (pv 13) pa_nil)))) (nomark _)) (pss_one (ps_ret pe_bl)) pss_nil)
      (pss_cons (ps_setLc (i := 11) (own := [("_law_row", 13)]) (g := gName 13) (tt := tYes) rfl nd rfl rfl (sw_true rfl rfl rfl (by decide +kernel)) (pi_list (pv 8)) (blkOk_by (N := nm_law_right) (sc := defScope st_law_right) (by decide +kernel)) (fun _ _ _ _ _ => (pg_name (i := 13) nd rfl (Or.inl rfl))) (fun _ _ _ _ _ => pts_nil) (fun _ _ _ _ _ => (pe_cmpR op_eq (pe_callB (show CallR _ _ (rRepr K) from call_repr hr hG) (by rfl) T.b_repr (by decide +kernel) (pa_cons (pv 13) pa_nil)) (pe_callB (show CallR _ _ (rRepr K) from call_repr hr hG) (by rfl) T.b_repr (by decide +kernel) (pa_cons (pe_ix (show IxR _ (rIxL K) from ix_list) (pv 8) pe_int (fun _ _ => rfl)) pa_nil)) (nomark _))))
      (pss_cons (ps_if (pt_cmpR (op_neD hr.units) (pe_lc (own := [("_law_made", 14)]) (g := gName 14) (tt := tYes) rfl nd (pi_list (pv 10)) (blkOk_by (N := nm_law_right) (sc := defScope st_law_right) (by decide +kernel)) (fun _ _ _ _ _ => (pg_name (i := 14) nd rfl (Or.inl rfl))) (fun _ _ _ _ _ => pts_nil) (fun _ _ _ _ _ => (pe_cmpR (show OpR _ _ (rEqO K A.c_Run (spEq K A) E0 id) from op_eqO (ok_Run___eq__ T) (hr.mono (by decide)) T.sp_Run___eq__ T.v_Run___eq__ pass0) (pe_ix (show IxR _ (rIxL K) from ix_list) (pv 9) pe_int (fun _ _ => rfl)) (pv 14) (nomark _)))) (pv 11) (nomark _)) (pss_one (ps_ret pe_bl)) pss_nil)
      (pss_cons (ps_if (pt_cmpR (op_neD hr.units) (pe_lc (own := [("_law_made", 14)]) (g := gName 14) (tt := tYes) rfl nd (pi_list (pv 9)) (blkOk_by (N := nm_law_right) (sc := defScope st_law_right) (by decide +kernel)) (fun _ _ _ _ _ => (pg_name (i := 14) nd rfl (Or.inl rfl))) (fun _ _ _ _ _ => pts_nil) (fun _ _ _ _ _ => (pe_cmpR (show OpR _ _ (rEqO K A.c_Run (spEq K A) E0 not) from op_neO (ok_Run___eq__ T) (hr.mono (by decide)) T.sp_Run___eq__ T.ne_Run T.mo_Run T.v_Run___eq__ pass0) (pe_ix (show IxR _ (rIxL K) from ix_list) (pv 10) pe_int (fun _ _ => rfl)) (pv 14) (nomark _)))) (pe_lc (own := [("_law_row", 13)]) (g := gName 13) (tt := tYes) rfl nd (pi_list (pv 11)) (blkOk_by (N := nm_law_right) (sc := defScope st_law_right) (by decide +kernel)) (fun _ _ _ _ _ => (pg_name (i := 13) nd rfl (Or.inl rfl))) (fun _ _ _ _ _ => pts_nil) (fun _ _ _ _ _ => (pe_not (pv 13)))) (nomark _)) (pss_one (ps_ret pe_bl)) pss_nil)
      (pss_one (ps_ret (pe_cmpR (op_eqD hr.units) (pe_lc (own := [("_law_thing", 15)]) (g := gName 15) (tt := tYes) rfl nd (pi_list (pe_lst (pa_cons pe_non (pa_cons (pv 5) (pa_cons (pe_tup (pa_cons (pv 2) (pa_cons (pv 3) (pa_cons (pv 5) pa_nil)))) (pa_cons pe_int pa_nil)))))) (blkOk_by (N := nm_law_right) (sc := defScope st_law_right) (by decide +kernel)) (fun _ _ _ _ _ => (pg_name (i := 15) nd rfl (Or.inl rfl))) (fun _ _ _ _ _ => pts_nil) (fun _ _ _ _ _ => (pe_cmpR (show OpR _ _ (rEqO K A.c_Run (spEq K A) E0 id) from op_eqO (ok_Run___eq__ T) (hr.mono (by decide)) T.sp_Run___eq__ T.v_Run___eq__ pass0) (pe_ix (show IxR _ (rIxL K) from ix_list) (pv 9) pe_int (fun _ _ => rfl)) (pv 15) (nomark _)))) (pe_op op_rep (pe_lst (pa_cons pe_bl pa_nil)) pe_int) (nomark _)))))))), ?_⟩
  intro H0 v0 v1 pg pf pm lr ls lm v4 v6 v7 rs tm hrows hsome hmore l0 l1 hok k
  obtain ⟨qs, hr1, hr2, hr3⟩ := id hrows
  obtain ⟨as, hs1, hs2, hs3⟩ := id hsome
  obtain ⟨bs, hm1, hm2, hm3⟩ := id hmore
  have le : (rs ++ rs).length ≤ 20 := by rw [List.length_append]; omega
  -- what is told
  refine ⟨_, rfl, _, rfl, ls, lm, _, _, rfl, rfl, hs1, hm1, ?_, fun u hu => ?_⟩
  · rw [List.length_map, List.length_map]
    exact len5000 (by omega)
  have su := same_new (o := .lst (as.map V.ref ++ bs.map V.ref)) hu
  have huu : (upd H0 u (.lst (as.map V.ref ++ bs.map V.ref))) u = some (.lst (as.map V.ref ++ bs.map V.ref)) := upd_same
  obtain ⟨cs, hc1, hc2, hc3⟩ := LsAt.cat (R := Run1 A) (fun h e => RunAt.same h e) (l := ls) (m := lm) su huu hs2 hm2 hs3 hm3
  have ec : cs.map V.ref = as.map V.ref ++ bs.map V.ref := by
    rw [huu] at hc1
    injection hc1 with hc1
    injection hc1 with hc1
    exact hc1.symm
  refine ⟨u, rfl, ⟨_, SqL.of huu⟩, fun D hD => lc_list (K := K) (a := u) (xs := cs.map V.ref) (fun i H2 => Same (upd H0 u (.lst (as.map V.ref ++ bs.map V.ref))) H2 ∧ H2 D = some (.lst ((((rs ++ rs).map fun r => r.told.shown).map V.str).take i))) ⟨same_new hD, upd_same⟩
    (fun i H2 _ h => SqL.of (h.1 _ _ hc1)) ?_ ?_⟩
  · rintro i x H2 hx ⟨s2, hd⟩
    obtain ⟨a, r, rfl, hri, hrm, run⟩ := ls_at hc2 hc3 hx
    have ok := hok r ((List.mem_append.mp hrm).elim id id)
    refine ⟨rfl, _, rfl, a, r, rfl, run.same s2, ok, fun H3 s3 => known_step hD s2 hd s3 ?_ ?_⟩
    · rw [List.getElem?_map, List.getElem?_map, hri]
      rfl
    · rw [List.length_map, List.length_map]
      omega
  rintro H2 ⟨s2, hd⟩
  rw [List.take_of_length_le (by rw [List.length_map, List.length_map, List.length_map, hc2]; exact Nat.le_refl _)] at hd
  have s02 := su.trans s2
  refine ⟨_, rfl, _, rfl, lr, lr, _, _, rfl, rfl, s02 _ _ hr1, s02 _ _ hr1, ?_, fun u2 hu2 => ?_⟩
  · rw [List.length_map]
    exact len5000 (by omega)
  have su2 := same_new (o := .lst (qs.map V.ref ++ qs.map V.ref)) hu2
  have huu2 : (upd H2 u2 (.lst (qs.map V.ref ++ qs.map V.ref))) u2 = some (.lst (qs.map V.ref ++ qs.map V.ref)) := upd_same
  obtain ⟨ds, hd1, hd2, hd3⟩ := LsAt.cat (R := RowAt) (fun h e => RowAt.same h e) (l := lr) (m := lr) (s02.trans su2) huu2 hr2 hr2 hr3 hr3
  refine ⟨u2, rfl, ⟨_, SqL.of huu2⟩, fun D2 hD2 => lc_list (K := K) (a := u2) (xs := ds.map V.ref) (fun i H3 => Same (upd H2 u2 (.lst (qs.map V.ref ++ qs.map V.ref))) H3 ∧ H3 D2 = some (.lst ((((rs ++ rs).map fun r => r.told.shown).map V.str).take i))) ⟨same_new hD2, upd_same⟩
    (fun i H3 _ h => SqL.of (h.1 _ _ hd1)) ?_ ?_⟩
  · rintro i x H3 hx ⟨s3, hd⟩
    obtain ⟨a, r, rfl, hri, hrm, row⟩ := ls_at hd2 hd3 hx
    have ok := hok r ((List.mem_append.mp hrm).elim id id)
    refine ⟨rfl, _, rfl, a, r, rfl, row.same s3, ok, fun H4 s4 => known_step hD2 s3 hd s4 ?_ ?_⟩
    · rw [List.getElem?_map, List.getElem?_map, hri]
      rfl
    · rw [List.length_map, List.length_map]
      omega
  rintro H3 ⟨s3, hd3'⟩
  rw [List.take_of_length_le (by rw [List.length_map, List.length_map, List.length_map, hd2]; exact Nat.le_refl _)] at hd3'
  have sh : SeqAt.shaped (.list (((rs ++ rs).map fun r => r.told.shown).map PyData.str)) = true := shaped_strs (by
    intro y hy
    obtain ⟨r, hr, rfl⟩ := List.mem_map.mp hy
    exact shown_asc (hok r ((List.mem_append.mp hr).elim id id)).plT)
  have s23 := su2.trans s3
  refine ⟨_, _, .lst (SqL.of (s23 _ _ hd)) (dp_strs _), .lst (SqL.of hd3') (dp_strs _), sh, sh, _, rfl, ?_⟩
  rw [eqv_self sh]
  refine iteF ?_
  have s03 := s02.trans s23
  -- alike
  obtain ⟨r0, hr0⟩ : ∃ r0, rs[0]? = some r0 := ⟨rs[0], by simp [l0]⟩
  have m0 : r0 ∈ rs := List.mem_of_getElem? hr0
  have ok0 := hok r0 m0
  obtain ⟨q0, hq0⟩ : ∃ q0, qs[0]? = some q0 := ⟨qs[0], by simp [hr2, l0]⟩
  obtain ⟨a0, ha0⟩ : ∃ a0, as[0]? = some a0 := ⟨as[0], by simp [hs2, l0]⟩
  obtain ⟨b0, hb0⟩ : ∃ b0, bs[0]? = some b0 := ⟨bs[0], by simp [hm2, l0]⟩
  have row0 := hr3 0 q0 r0 hq0 hr0
  have run0 := hs3 0 a0 r0 ha0 hr0
  have run1 := hm3 0 b0 r0 hb0 hr0
  have atq : atI (qs.map V.ref) 0 = some (.ref q0) := atI_nat (j := 0) (by rw [List.getElem?_map, hq0]; rfl)
  have ata : atI (as.map V.ref) 0 = some (.ref a0) := atI_nat (j := 0) (by rw [List.getElem?_map, ha0]; rfl)
  have atb : atI (bs.map V.ref) 0 = some (.ref b0) := atI_nat (j := 0) (by rw [List.getElem?_map, hb0]; rfl)
  obtain ⟨bl, hbl⟩ : ∃ bl : List Bool, bl = rs.map fun r => PyData.eqv r0.pD r.pD := ⟨_, rfl⟩
  have lbl : bl.length = rs.length := by rw [hbl, List.length_map]
  have blat : ∀ {i : Nat} {r : Row}, rs[i]? = some r → bl[i]? = some (PyData.eqv r0.pD r.pD) := fun {i r} h => by
    rw [hbl, List.getElem?_map, h]
    rfl
  have shb := shaped_bools bl
  refine ⟨_, rfl, lr, rfl, ⟨_, SqL.of (s03 _ _ hr1)⟩, fun D4 hD4 => lc_list (K := K) (a := lr) (xs := qs.map V.ref) (fun i H4 => Same H3 H4 ∧ H4 D4 = some (.lst ((bl.map V.bl).take i))) ⟨same_new hD4, upd_same⟩
    (fun i H4 _ h => SqL.of (h.1 _ _ (s03 _ _ hr1))) ?_ ?_⟩
  · rintro i x H4 hx ⟨s4, hd4⟩
    obtain ⟨a, r, rfl, hri, hrm, row⟩ := ls_at hr2 hr3 hx
    have ok := hok r hrm
    have s04 := s03.trans s4
    have e : decide (V.str r.lD.shown = V.str r0.lD.shown) = PyData.eqv r0.pD r.pD := by
      rw [← alike ok0 ok]
      exact decide_eq_decide.mpr ⟨fun h => by injection h with h; exact h.symm, fun h => by rw [h]⟩
    refine ⟨rfl, _, rfl, a, r.lD, rfl, dp_row (row.same s04) ok, (show_plain ok.plL).1, (show_plain ok.plL).2, Nat.le_trans r.depthL (by decide), ok.lenL, ?_⟩
    refine ⟨_, rfl, lr, _, _, _, rfl, rfl, SqL.of (s04 _ _ hr1), atq, q0, r0.lD, rfl, dp_row (row0.same s04) ok0, (show_plain ok0.plL).1, (show_plain ok0.plL).2, Nat.le_trans r0.depthL (by decide), ok0.lenL, rfl, ?_⟩
    rw [e]
    refine known_step hD4 s4 hd4 (Same.refl _) ?_ ?_
    · rw [List.getElem?_map, blat hri]
      rfl
    · rw [List.length_map, lbl]
      omega
  rintro H4 ⟨s4, hd4⟩
  rw [List.take_of_length_le (by rw [List.length_map, List.length_map, hr2, lbl]; exact Nat.le_refl _)] at hd4
  have s04 := s03.trans s4
  -- some[0] == made
  refine ⟨_, rfl, lm, rfl, ⟨_, SqL.of (s04 _ _ hm1)⟩, fun D5 hD5 => lc_list (K := K) (a := lm) (xs := bs.map V.ref) (fun i H5 => Same H4 H5 ∧ H5 D5 = some (.lst ((bl.map V.bl).take i))) ⟨same_new hD5, upd_same⟩
    (fun i H5 _ h => SqL.of (h.1 _ _ (s04 _ _ hm1))) ?_ ?_⟩
  · rintro i x H5 hx ⟨s5, hd5⟩
    obtain ⟨a, r, rfl, hri, hrm, run⟩ := ls_at hm2 hm3 hx
    have ok := hok r hrm
    have s05 := s04.trans s5
    have runA := run0.same s05
    have runB := run.same s05
    obtain ⟨dx, pt, _, _, _, hx1, _⟩ := id runA
    obtain ⟨dx', pt', _, _, _, hx2, _⟩ := id runB
    refine ⟨rfl, _, rfl, ls, _, _, _, rfl, rfl, SqL.of (s05 _ _ hs1), ata, _, rfl, a0, dx, _, _, rfl, hx1, T.ty_Run _ _ _ _ hx2, T.ns_Run, a0, _, r0, rfl, runA, ok0, .inl ⟨a, r, rfl, runB, ok, _, rfl, ?_⟩⟩
    refine known_step hD5 s5 hd5 (Same.refl _) ?_ ?_
    · rw [List.getElem?_map, blat hri]
      rfl
    · rw [List.length_map, lbl]
      omega
  rintro H5 ⟨s5, hd5⟩
  rw [List.take_of_length_le (by rw [List.length_map, List.length_map, hm2, lbl]; exact Nat.le_refl _)] at hd5
  refine ⟨_, rfl, _, _, .lst (SqL.of hd5) (dp_bls _), .lst (SqL.of (s5 _ _ hd4)) (dp_bls _), shb, shb, _, rfl, ?_⟩
  rw [eqv_self shb]
  refine iteF ?_
  have s05 := s04.trans s5
  -- more[0] != made
  obtain ⟨nl, hnl⟩ : ∃ nl : List Bool, nl = bl.map not := ⟨_, rfl⟩
  have lnl : nl.length = rs.length := by rw [hnl, List.length_map, lbl]
  have shn := shaped_bools nl
  have nlat : ∀ {i : Nat} {b : Bool}, bl[i]? = some b → nl[i]? = some (!b) := fun {i b} h => by
    rw [hnl, List.getElem?_map, h]
    rfl
  refine ⟨_, rfl, ls, rfl, ⟨_, SqL.of (s05 _ _ hs1)⟩, fun D6 hD6 => lc_list (K := K) (a := ls) (xs := as.map V.ref) (fun i H6 => Same H5 H6 ∧ H6 D6 = some (.lst ((nl.map V.bl).take i))) ⟨same_new hD6, upd_same⟩
    (fun i H6 _ h => SqL.of (h.1 _ _ (s05 _ _ hs1))) ?_ ?_⟩
  · rintro i x H6 hx ⟨s6, hd6⟩
    obtain ⟨a, r, rfl, hri, hrm, run⟩ := ls_at hs2 hs3 hx
    have ok := hok r hrm
    have s06 := s05.trans s6
    have runA := run1.same s06
    have runB := run.same s06
    obtain ⟨dx, pt, _, _, _, hx1, _⟩ := id runA
    obtain ⟨dx', pt', _, _, _, hx2, _⟩ := id runB
    refine ⟨rfl, _, rfl, lm, _, _, _, rfl, rfl, SqL.of (s06 _ _ hm1), atb, _, rfl, b0, dx, _, _, rfl, hx1, T.ty_Run _ _ _ _ hx2, T.ns_Run, b0, _, r0, rfl, runA, ok0, .inl ⟨a, r, rfl, runB, ok, _, rfl, ?_⟩⟩
    refine known_step hD6 s6 hd6 (Same.refl _) ?_ ?_
    · rw [List.getElem?_map, nlat (blat hri)]
      rfl
    · rw [List.length_map, lnl]
      omega
  rintro H6 ⟨s6, hd6⟩
  rw [List.take_of_length_le (by rw [List.length_map, List.length_map, hs2, lnl]; exact Nat.le_refl _)] at hd6
  have h46 := s6 _ _ (s5 _ _ hd4)
  refine ⟨_, rfl, D4, rfl, ⟨_, SqL.of h46⟩, fun D7 hD7 => lc_list (K := K) (a := D4) (xs := bl.map V.bl) (fun i H7 => Same H6 H7 ∧ H7 D7 = some (.lst ((nl.map V.bl).take i))) ⟨same_new hD7, upd_same⟩
    (fun i H7 _ h => SqL.of (h.1 _ _ h46)) ?_ ?_⟩
  · rintro i x H7 hx ⟨s7, hd7⟩
    rw [List.getElem?_map] at hx
    obtain ⟨b, hb, rfl⟩ := Option.map_eq_some_iff.mp hx
    refine ⟨rfl, _, rfl, b, rfl, ?_⟩
    refine known_step hD7 s7 hd7 (Same.refl _) ?_ ?_
    · rw [List.getElem?_map, nlat hb]
      rfl
    · rw [List.length_map, lnl]
      omega
  rintro H7 ⟨s7, hd7⟩
  rw [List.take_of_length_le (by rw [List.length_map, List.length_map, lbl, lnl]; exact Nat.le_refl _)] at hd7
  refine ⟨_, _, .lst (SqL.of (s7 _ _ hd6)) (dp_bls _), .lst (SqL.of hd7) (dp_bls _), shn, shn, _, rfl, ?_⟩
  rw [eqv_self shn]
  refine iteF ?_
  have s07 := s05.trans (s6.trans s7)
  -- other things
  obtain ⟨ys, tx⟩ := tm
  refine ⟨_, rfl, _, rfl, _, rfl, _, rfl, (by show 3 ≤ sizeLine; decide), fun t ht => ⟨(by show 4 ≤ sizeLine; decide), fun u8 hu8 => ?_⟩⟩
  have st := same_new (o := .tup [.ref pg, .ref pf, .ref pm]) ht
  have s8 := same_new (o := .lst [.non, .ref pm, .ref t, .int 0]) hu8
  have h8 : (upd (upd H7 t (.tup [.ref pg, .ref pf, .ref pm])) u8 (.lst [.non, .ref pm, .ref t, .int 0])) u8 = some (.lst [.non, .ref pm, .ref t, .int 0]) := upd_same
  have htt := s8 _ _ (upd_same (H := H7) (a := t) (o := .tup [.ref pg, .ref pf, .ref pm]))
  have s08 := s07.trans (st.trans s8)
  revert htt h8 s08
  generalize upd (upd H7 t (.tup [.ref pg, .ref pf, .ref pm])) u8 (.lst [.non, .ref pm, .ref t, .int 0]) = H8
  intro h8 htt s08
  refine ⟨u8, rfl, ⟨_, SqL.of h8⟩, fun D9 hD9 => lc_list (K := K) (a := u8) (xs := [.non, .ref pm, .ref t, .int 0]) (fun i H9 => Same H8 H9 ∧ H9 D9 = some (.lst (((List.replicate 4 false).map V.bl).take i))) ⟨same_new hD9, upd_same⟩
    (fun i H9 _ h => SqL.of (h.1 _ _ h8)) ?_ ?_⟩
  · rintro i x H9 hx ⟨s9, hd9⟩
    have s09 := s08.trans s9
    have runA := run0.same s09
    obtain ⟨dx, pt, _, _, _, hx1, _⟩ := id runA
    obtain ⟨n, ty⟩ : ∃ n : Ty7, TyX K H9 x (.type n.nm) := by
      have hm := List.mem_of_getElem? hx
      simp only [List.mem_cons, List.not_mem_nil, or_false] at hm
      rcases hm with rfl | rfl | rfl | rfl
      · exact ⟨_, Th.non.ty⟩
      · exact ⟨_, (tx.same s09).ty⟩
      · exact ⟨_, (Th.tup (s9 _ _ htt)).ty⟩
      · exact ⟨_, (Th.int 0).ty⟩
    have hi : i < 4 := (List.getElem?_eq_some_iff.mp hx).1
    refine ⟨rfl, _, rfl, ls, _, _, _, rfl, rfl, SqL.of (s09 _ _ hs1), ata, _, rfl, a0, dx, _, _, rfl, hx1, ty, T.nf_Run n, a0, _, r0, rfl, runA, ok0, .inr ⟨n, ty, _, rfl, ?_⟩⟩
    refine known_step hD9 s9 hd9 (Same.refl _) ?_ (by decide)
    rw [List.getElem?_map, List.getElem?_replicate, if_pos hi]
    rfl
  rintro H9 ⟨s9, hd9⟩
  refine ⟨(by show 1 ≤ sizeLine; decide), fun u10 hu10 => ?_⟩
  refine ⟨u10, _, _, rfl, rfl, upd_same, (by decide), (by decide), (by decide), fun u11 hu11 => ?_⟩
  have s10 := same_new (o := .lst [.bl false]) hu10
  have s11 := same_new (o := .lst (List.replicate (4 : Int).toNat [V.bl false]).flatten) hu11
  have shf : SeqAt.shaped (.list ((List.replicate 4 false).map PyData.bool)) = true := by decide +kernel
  have ef : PyData.eqv (.list ((List.replicate 4 false).map PyData.bool)) (.list ((List.replicate 4 false).map PyData.bool)) = true := by decide +kernel
  refine ⟨.list ((List.replicate 4 false).map PyData.bool), .list ((List.replicate 4 false).map PyData.bool), .lst (SqL.of ((s10.trans s11) _ _ hd9)) (dp_bls (List.replicate 4 false)), .lst (SqL.of upd_same) (dp_bls (List.replicate 4 false)), shf, shf, ?_⟩
  rw [ef]
  exact k _ (s08.trans (s9.trans (s10.trans s11)))
end
end K25
set_option Elab.async false
set_option linter.all false
set_option maxRecDepth 100000
set_option maxHeartbeats 4000000
namespace K25
open PySem PySem.Spec PyProof.Rows L2 Mo
/-! ### what stays when a list is written -/
theorem tup_ne {H : Hp} {x p : Addr} {l xs : List V} (hx : H x = some (.lst l)) (hp : H p = some (.tup xs)) : p ≠ x := ne_of hp hx (by intro z; cases z)
theorem MovesAt.keep {H H' : Hp} {x p : Addr} {l : List V} {ms : List (List V)} (h : MovesAt H p ms) (hx : H x = some (.lst l)) (e : KeepBut x H H') : MovesAt H' p ms := by
  obtain ⟨qs, h1, h2, h3⟩ := h
  have n1 : p ≠ x := by
    obtain ⟨ob, _, h⟩ := h1
    exact ne_of h hx (by intro z; cases z)
  exact ⟨qs, h1.keep n1 e, h2, fun i q m a b => e _ _ (tup_ne hx (h3 i q m a b)) (h3 i q m a b)⟩
theorem RunAt.keep {A : Ads} {H H' : Hp} {x a : Addr} {l g f : List V} {ms : List (List V)} (h : RunAt A H a g f ms) (hx : H x = some (.lst l)) (e : KeepBut x H H') : RunAt A H' a g f ms := by
  obtain ⟨dx, pt, pg, pf, pm, h1, h2, h3, h4, h5⟩ := h
  exact ⟨dx, pt, pg, pf, pm, e _ _ (ne_of h1 hx (by intro z; cases z)) h1, e _ _ (tup_ne hx h2) h2, e _ _ (tup_ne hx h3) h3, e _ _ (tup_ne hx h4) h4, h5.keep hx e⟩
theorem RowAt.keep {H H' : Hp} {x q : Addr} {l : List V} {r : Row} (h : RowAt H q r) (hx : H x = some (.lst l)) (n : q ≠ x) (e : KeepBut x H H') : RowAt H' q r := by
  obtain ⟨pg, pf, pm, h1, h2, h3, h4⟩ := h
  exact ⟨pg, pf, pm, e _ _ n h1, e _ _ (tup_ne hx h2) h2, e _ _ (tup_ne hx h3) h3, h4.keep hx e⟩
/-- a list of runs grows -/
def Grow (A : Ads) (rs : List Row) (Hs : Hp) (D : Addr) (i : Nat) (H2 : Hp) : Prop := Same Hs H2 ∧ ∃ as : List Addr, as.length = i ∧ H2 D = some (.lst (as.map V.ref)) ∧ ∀ (j : Nat) (a : Addr) (r : Row), as[j]? = some a → rs[j]? = some r → Run1 A H2 a r
theorem Grow.start {A : Ads} {rs : List Row} {Hs : Hp} {D : Addr} (hD : Hs D = none) : Grow A rs Hs D 0 (upd Hs D (.lst [])) := ⟨same_new hD, [], rfl, upd_same, fun j a r h _ => by simp at h⟩
theorem Grow.step {A : Ads} {rs : List Row} {Hs H2 H' : Hp} {D x dx : Addr} {i : Nat} {r : Row} {o1 o2 : HO} (hD : Hs D = none) (g : Grow A rs Hs D i H2) (hri : rs[i]? = some r) (hi : i < 1000) (hx : H2 x = none) (hdx : H2 dx = none)
    (run : Run1 A H' x r) (kb : KeepBut x (upd (upd H2 dx o1) x o2) H') : ∃ acc, H' D = some (.lst acc) ∧ acc.length < sizeLine ∧ Grow A rs Hs D (i + 1) (upd H' D (.lst (acc ++ [.ref x]))) := by
  obtain ⟨s2, as, la, hd, hr⟩ := g
  have sx : Same H2 H' := fun b o e => by
    have n1 := ne_of_none e hx
    have n2 := ne_of_none e hdx
    refine kb _ _ n1 ?_
    rw [upd_ne n1, upd_ne n2]
    exact e
  have hd' := sx _ _ hd
  have ku : KeepBut D H' (upd H' D (.lst (as.map V.ref ++ [.ref x]))) := KeepBut.upd _ _ _
  refine ⟨as.map V.ref, hd', ?_, ?_, as ++ [x], by rw [List.length_append, la]; rfl, by rw [upd_same, List.map_append]; rfl, ?_⟩
  · rw [List.length_map, la]
    exact lt5000 (by omega)
  · intro b o e
    rw [upd_ne (ne_of_none e hD)]
    exact sx _ _ (s2 _ _ e)
  · intro j a r1 h1 h2
    rw [List.getElem?_append] at h1
    split at h1
    · exact RunAt.keep ((hr j a r1 h1 h2).same sx) hd' ku
    · rename_i hj
      have ej : j = i := by
        have := (List.getElem?_eq_some_iff.mp h1).1
        simp at this
        omega
      subst ej
      rw [la] at h1
      simp at h1
      subst h1
      rw [hri] at h2
      cases h2
      exact RunAt.keep run hd' ku
section
variable {P : Program} {w : World} {K : PySem.W.Frag} {mg : Str → Option Value} {base : Heap} {A : Ads}
theorem right_mid (T : Txt K mg A) {cdv : Value} {A' : Around} {outer : List Env} {s : Shared} {H : Hp} {Q : VK} {E : XK} (hr : Room 9 (A'.deeper (envOfC "_law_right" (defScope st_law_right) s.heap.objs.size A.a_law_right cdv)))
    (hG : (A'.deeper (envOfC "_law_right" (defScope st_law_right) s.heap.objs.size A.a_law_right cdv)).guards = some []) :
    ∃ t, PSs (cxOf CX0 P w K mg base nm_law_right "_law_right" (defScope st_law_right) A.a_law_right cdv A' outer s H E).nox ((defBody st_law_right).drop 10) t ∧
      ∀ (H0 : Hp) (v0 v1 : Option V) (pg pf pm lr : Addr) (v4 v6 v7 : Option V) (rs : List Row), (∃ ys, TX H0 pm ys) → RowsAt H0 lr rs → 0 < rs.length → rs.length ≤ 10 → (∀ r ∈ rs, r.Ok) →
        (∀ H', Same H0 H' → Q (.bl true) H') → t { nx := fun _ H' => Q .non H', rt := Q } [v0, v1, some (.ref pg), some (.ref pf), v4, some (.ref pm), v6, v7, some (.ref lr), none, none, none, none, none, none, none] H0 := by
  have nd := sc_law_right.nd
  obtain ⟨t12, D12, tail⟩ := right_end (P := P) (w := w) (base := base) (outer := outer) (H := H) (Q := Q) (E := E) T hr hG
  refine ⟨_, (pss_cons (ps_set (i := 9) nd rfl (Or.inr rfl) (pe_lc (own := [("_law_row", 13)]) (g := gName 13) (tt := tYes) rfl nd (pi_list (pv 8)) (blkOk_by (N := nm_law_right) (sc := defScope st_law_right) (by decide +kernel)) (fun _ _ _ _ _ => (pg_name (i := 13) nd rfl (Or.inl rfl))) (fun _ _ _ _ _ => pts_nil) (fun _ _ _ _ _ => (pe_make T.mk_Run (ok_Run___init__ T) (hr.mono (by decide)) (by rfl) T.m_Run T.v_Run___init__ .nil pass0 (pa_cons (pe_ix (show IxR _ (rIxL K) from ix_list) (pv 13) pe_int (fun _ _ => rfl)) (pa_cons (pe_ix (show IxR _ (rIxL K) from ix_list) (pv 13) pe_int (fun _ _ => rfl)) (pa_cons (pe_ix (show IxR _ (rIxL K) from ix_list) (pv 13) pe_int (fun _ _ => rfl)) pa_nil)))))))
      (pss_cons (ps_set (i := 10) nd rfl (Or.inr rfl) (pe_lc (own := [("_law_row", 13)]) (g := gName 13) (tt := tYes) rfl nd (pi_list (pv 8)) (blkOk_by (N := nm_law_right) (sc := defScope st_law_right) (by decide +kernel)) (fun _ _ _ _ _ => (pg_name (i := 13) nd rfl (Or.inl rfl))) (fun _ _ _ _ _ => pts_nil) (fun _ _ _ _ _ => (pe_makeK0 T.mk_Run (ok_Run___init__ T) (hr.mono (by decide)) (by rfl) T.m_Run T.kb_Run pass0 (pk_cons (pe_ix (show IxR _ (rIxL K) from ix_list) (pv 13) pe_int (fun _ _ => rfl)) (pk_cons (pe_ix (show IxR _ (rIxL K) from ix_list) (pv 13) pe_int (fun _ _ => rfl)) (pk_cons (pe_ix (show IxR _ (rIxL K) from ix_list) (pv 13) pe_int (fun _ _ => rfl)) pk_nil)))))))
      D12)), ?_⟩
  intro H0 v0 v1 pg pf pm lr v4 v6 v7 rs tm hrows l0 l1 hok k
  obtain ⟨qs, hr1, hr2, hr3⟩ := id hrows
  refine ⟨_, rfl, lr, rfl, ⟨_, SqL.of hr1⟩, fun D hD => lc_list (K := K) (a := lr) (xs := qs.map V.ref) (fun i H2 => Grow A rs H0 D i H2) (Grow.start hD) (fun i H2 _ h => SqL.of (h.1 _ _ hr1)) ?_ ?_⟩
  · rintro i x H2 hx g
    obtain ⟨q, r, rfl, hri, hrm, row⟩ := ls_at hr2 hr3 hx
    have ok := hok r hrm
    obtain ⟨pg1, pf1, pm1, h1, h2, h3, h4⟩ := row.same g.1
    have hi : i < rs.length := (List.getElem?_eq_some_iff.mp hri).1
    refine ⟨rfl, _, rfl, q, _, _, _, rfl, rfl, SqL.of h1, atI_nat (j := 0) rfl, _, rfl, q, _, _, _, rfl, rfl, SqL.of h1, atI_nat (j := 1) rfl, _, rfl, q, _, _, _, rfl, rfl, SqL.of h1, atI_nat (j := 2) rfl, fun y dy hy hdy hne => ?_⟩
    have sy : Same H2 (upd (upd H2 dy (.own y)) y (.ins A.c_Run dy [])) := fun b o e => by
      rw [upd_ne (ne_of_none e hy), upd_ne (ne_of_none e hdy)]
      exact e
    exact ⟨y, dy, pg1, pf1, pm1, r.g, r.f, r.ms, rfl, upd_same, sy _ _ h2, sy _ _ h3, h4.same sy, ok.g, ok.f, ok.ms, fun H' run kb => ⟨rfl, Grow.step hD g hri (by omega) hy hdy run kb⟩⟩
  rintro H2 ⟨s2, as, la, hd, has⟩
  rw [List.length_map, hr2] at la
  have hsome : RunsAt A H2 D rs := ⟨as, hd, la, has⟩
  refine ⟨_, rfl, lr, rfl, ⟨_, SqL.of (s2 _ _ hr1)⟩, fun D2 hD2 => lc_list (K := K) (a := lr) (xs := qs.map V.ref) (fun i H3 => Grow A rs H2 D2 i H3) (Grow.start hD2) (fun i H3 _ h => SqL.of (h.1 _ _ (s2 _ _ hr1))) ?_ ?_⟩
  · rintro i x H3 hx g
    obtain ⟨q, r, rfl, hri, hrm, row⟩ := ls_at hr2 hr3 hx
    have ok := hok r hrm
    obtain ⟨pg1, pf1, pm1, h1, h2, h3, h4⟩ := (row.same s2).same g.1
    have hi : i < rs.length := (List.getElem?_eq_some_iff.mp hri).1
    refine ⟨rfl, _, rfl, q, _, _, _, rfl, rfl, SqL.of h1, atI_nat (j := 2) rfl, _, rfl, q, _, _, _, rfl, rfl, SqL.of h1, atI_nat (j := 1) rfl, _, rfl, q, _, _, _, rfl, rfl, SqL.of h1, atI_nat (j := 0) rfl, rfl, rfl, fun y dy hy hdy hne => ?_⟩
    have sy : Same H3 (upd (upd H3 dy (.own y)) y (.ins A.c_Run dy [])) := fun b o e => by
      rw [upd_ne (ne_of_none e hy), upd_ne (ne_of_none e hdy)]
      exact e
    exact ⟨y, dy, pg1, pf1, pm1, r.g, r.f, r.ms, rfl, upd_same, sy _ _ h2, sy _ _ h3, h4.same sy, ok.g, ok.f, ok.ms, fun H' run kb => ⟨rfl, Grow.step hD2 g hri (by omega) hy hdy run kb⟩⟩
  rintro H3 ⟨s3, bs, lb, hd3, hbs⟩
  rw [List.length_map, hr2] at lb
  have s03 := s2.trans s3
  obtain ⟨ys, tx⟩ := tm
  exact tail H3 v0 v1 pg pf pm lr D D2 v4 v6 v7 rs ⟨ys, tx.same s03⟩ (hrows.same s03) (hsome.same s3) ⟨bs, hd3, lb, hbs⟩ l0 l1 hok fun H' e => k H' (s03.trans e)
end
end K25
set_option Elab.async false
set_option linter.all false
set_option maxRecDepth 100000
set_option maxHeartbeats 4000000
namespace K25
open PySem PySem.Spec PyProof.Rows L2 Mo
/-! ### tuples of moves, cut and joined -/
def AllMv (H : Hp) (xs : List V) : Prop := ∀ x ∈ xs, ∃ q m, x = V.ref q ∧ H q = some (.tup m) ∧ MoveV m
theorem AllMv.same {H H' : Hp} {xs : List V} (h : AllMv H xs) (e : Same H H') : AllMv H' xs := fun x hx => let ⟨q, m, h1, h2, h3⟩ := h x hx; ⟨q, m, h1, e _ _ h2, h3⟩
theorem AllMv.keep {H H' : Hp} {xs l : List V} {a : Addr} (h : AllMv H xs) (ha : H a = some (.lst l)) (e : KeepBut a H H') : AllMv H' xs := fun x hx => let ⟨q, m, h1, h2, h3⟩ := h x hx; ⟨q, m, h1, e _ _ (tup_ne ha h2) h2, h3⟩
theorem AllMv.app {H : Hp} {xs ys : List V} (h : AllMv H xs) (k : AllMv H ys) : AllMv H (xs ++ ys) := fun x hx => (List.mem_append.mp hx).elim (h x) (k x)
theorem AllMv.cut {H : Hp} {xs : List V} (h : AllMv H xs) (lo hi : Option Int) : AllMv H (cutV xs lo hi) := fun x hx => h x (List.mem_of_mem_drop (List.mem_of_mem_take hx))
theorem AllMv.one {H : Hp} {q : Addr} {m : List V} (h : H q = some (.tup m)) (hm : MoveV m) : AllMv H [.ref q] := fun x hx => ⟨q, m, List.mem_singleton.mp hx, h, hm⟩
theorem mv_lists {H : Hp} : ∀ {xs : List V}, AllMv H xs → ∃ (qs : List Addr) (ms : List (List V)), xs = qs.map V.ref ∧ qs.length = ms.length ∧ (∀ m ∈ ms, MoveV m) ∧ ∀ (i : Nat) (q : Addr) (m : List V), qs[i]? = some q → ms[i]? = some m → H q = some (.tup m)
  | [], _ => ⟨[], [], rfl, rfl, fun _ h => (List.not_mem_nil h).elim, fun i q m h _ => by simp at h⟩
  | x :: xs, h => by
    obtain ⟨q, m, rfl, h1, h2⟩ := h x List.mem_cons_self
    obtain ⟨qs, ms, rfl, l, hm, hi⟩ := mv_lists fun y hy => h y (List.mem_cons_of_mem _ hy)
    refine ⟨q :: qs, m :: ms, rfl, by rw [List.length_cons, List.length_cons, l], fun y hy => ?_, fun i q1 m1 a b => ?_⟩
    · rcases List.mem_cons.mp hy with rfl | hy
      · exact h2
      · exact hm y hy
    · cases i with
      | zero =>
        simp at a b
        subst a b
        exact h1
      | succ i => exact hi i q1 m1 (by simpa using a) (by simpa using b)
theorem moves_of {H : Hp} {p : Addr} {xs : List V} (t : TX H p xs) (h : AllMv H xs) : ∃ ms, MovesAt H p ms ∧ ms.length = xs.length ∧ ∀ m ∈ ms, MoveV m := by
  obtain ⟨qs, ms, rfl, l, hm, hi⟩ := mv_lists h
  exact ⟨ms, ⟨qs, t, l, hi⟩, by rw [List.length_map, l], hm⟩
theorem MovesAt.all {H : Hp} {p : Addr} {ms : List (List V)} (h : MovesAt H p ms) (hm : ∀ m ∈ ms, MoveV m) : ∃ xs, TX H p xs ∧ AllMv H xs ∧ xs.length = ms.length := by
  obtain ⟨qs, h1, h2, h3⟩ := h
  refine ⟨_, h1, fun x hx => ?_, by rw [List.length_map, h2]⟩
  obtain ⟨q, hq, rfl⟩ := List.mem_map.mp hx
  obtain ⟨i, hi, e⟩ := List.mem_iff_getElem.mp hq
  have hi2 : i < ms.length := by omega
  exact ⟨q, ms[i], rfl, h3 i q _ (by rw [List.getElem?_eq_getElem hi, e]) (List.getElem?_eq_getElem hi2), hm _ (List.getElem_mem hi2)⟩
theorem sl_ok {K : PySem.W.Frag} {H : Hp} {p : Addr} {xs : List V} {lo hi : Option Int} {Q : VK} (t : TX H p xs) (h : ∀ p1 H1, Same H H1 → TX H1 p1 (cutV xs lo hi) → Q (.ref p1) H1) : rSlX1 K (.ref p) lo hi H Q :=
  ⟨p, xs, rfl, t.sq, fun e => h p H (Same.refl H) (by rw [e]; exact t), fun p1 ob od hp => h p1 _ (same_new hp) ⟨ob, od, upd_same⟩⟩
theorem cat_ok {K : PySem.W.Frag} {H : Hp} {a b : Addr} {xs ys : List V} {Q : VK} (ta : TX H a xs) (tb : TX H b ys) (hl : xs.length + ys.length ≤ 5000) (h : ∀ p1 H1, Same H H1 → TX H1 p1 (xs ++ ys) → Q (.ref p1) H1) : rCatX K (.ref a) (.ref b) H Q :=
  ⟨a, b, xs, ys, rfl, rfl, ta.sq, tb.sq, len5000 hl, fun e => h b H (Same.refl H) (by rw [e]; exact tb), fun e => h a H (Same.refl H) (by rw [e, List.append_nil]; exact ta), fun p1 ob od hp => h p1 _ (same_new hp) ⟨ob, od, upd_same⟩⟩
theorem catA_ok {K : PySem.W.Frag} {H : Hp} {a b : Addr} {xs ys : List V} {Q : VK} (ta : H a = some (.tup xs)) (tb : H b = some (.tup ys)) (hl : xs.length + ys.length ≤ 5000) (h : ∀ p1 H1, Same H H1 → H1 p1 = some (.tup (xs ++ ys)) → Q (.ref p1) H1) : rCatA K (.ref a) (.ref b) H Q :=
  ⟨a, b, xs, ys, rfl, rfl, SqT.of ta, SqT.of tb, len5000 hl, fun e => h b H (Same.refl H) (by rw [e]; exact tb), fun _ e => h a H (Same.refl H) (by rw [e, List.append_nil]; exact ta), fun _ _ p1 hp => h p1 _ (same_new hp) upd_same⟩
section
variable {P : Program} {w : World} {K : PySem.W.Frag} {mg : Str → Option Value} {base : Heap} {A : Ads}
theorem right_rows (T : Txt K mg A) {cdv : Value} {A' : Around} {outer : List Env} {s : Shared} {H : Hp} {Q : VK} {E : XK} (hr : Room 9 (A'.deeper (envOfC "_law_right" (defScope st_law_right) s.heap.objs.size A.a_law_right cdv)))
    (hG : (A'.deeper (envOfC "_law_right" (defScope st_law_right) s.heap.objs.size A.a_law_right cdv)).guards = some []) :
    ∃ t, PSs (cxOf CX0 P w K mg base nm_law_right "_law_right" (defScope st_law_right) A.a_law_right cdv A' outer s H E).nox ((defBody st_law_right).drop 6) t ∧
      ∀ (H0 : Hp) (v1 : Option V) (a pg pf pm pb : Addr) (v4 v6 : Option V) (g f : List V) (ms mb : List (List V)), Sr H0 a → H0 pg = some (.tup g) → H0 pf = some (.tup f) → MovesAt H0 pm ms → MovesAt H0 pb mb → g.length ≤ 10 → f.length ≤ 10 → (∀ x ∈ g, ValV x) → (∀ x ∈ f, ValV x) →
        ms.length ≤ 100 → mb.length ≤ 200 → (∀ m ∈ ms, MoveV m) → (∀ m ∈ mb, MoveV m) →
        (∀ H', Sr H' a → KeepBut a H0 H' → Q (.bl true) H') → t { nx := fun _ H' => Q .non H', rt := Q } [some (.ref a), v1, some (.ref pg), some (.ref pf), v4, some (.ref pm), v6, some (.ref pb), none, none, none, none, none, none, none, none] H0 := by
  have nd := sc_law_right.nd
  obtain ⟨t10, D10, tail⟩ := right_mid (P := P) (w := w) (base := base) (outer := outer) (H := H) (Q := Q) (E := E) T hr hG
  refine ⟨_, (pss_cons (ps_set (i := 8) nd rfl (Or.inr rfl) (pe_lst (pa_cons (pe_lst (pa_cons (pv 2) (pa_cons (pv 3) (pa_cons (pv 5) pa_nil)))) (pa_cons (pe_lst (pa_cons (pv 2) (pa_cons (pv 3) (pa_cons (pv 7) pa_nil)))) pa_nil))))
      (pss_cons (ps_expr (pe_bm PySem.F.plainAttrs_list PySem.F.slot_list_append PySem.F.type_list_append mt_append (pv 8) (pa_cons (pe_lst (pa_cons (pe_call (ok_law_values T) (hr.mono (by decide)) (by rfl) T.m_law_values T.k_law_values T.v_law_values .nil pass0 (pa_cons (pv 0) (pa_cons (pe_callB call_len_seq (by rfl) T.b_len (by decide +kernel) (pa_cons (pv 2) pa_nil)) pa_nil))) (pa_cons (pv 3) (pa_cons (pv 5) pa_nil)))) pa_nil)))
      (pss_cons (ps_set (i := 8) nd rfl (Or.inr rfl) (pe_op op_cat (pv 8) (pe_lst (pa_cons (pe_lst (pa_cons (pv 2) (pa_cons (pe_op op_catA (pv 3) (pe_tup (pa_cons pe_non pa_nil))) (pa_cons (pv 5) pa_nil)))) (pa_cons (pe_lst (pa_cons (pv 3) (pa_cons (pv 2) (pa_cons (pv 5) pa_nil)))) pa_nil)))))
      (pss_cons (ps_expr (pe_bm PySem.F.plainAttrs_list PySem.F.slot_list_append PySem.F.type_list_append mt_append (pv 8) (pa_cons (pe_lst (pa_cons (pv 2) (pa_cons (pv 3) (pa_cons (pe_op op_catX (pv 5) (pe_tupX (pa_cons (pe_tup (pa_cons pe_str pa_nil)) pa_nil))) pa_nil)))) pa_nil)))
      D10)))), ?_⟩
  intro H0 v1 a pg pf pm pb v4 v6 g f ms mb src hg hf hm hb lg lf vg vf lm lb am ab k
  -- rows = [[..], [..]]
  refine ⟨_, rfl, _, rfl, _, rfl, (by show 3 ≤ sizeLine; decide), fun w1 h1 => ⟨_, rfl, _, rfl, _, rfl, (by show 3 ≤ sizeLine; decide), fun w2 h2 => ⟨(by show 2 ≤ sizeLine; decide), fun lr hlr => ?_⟩⟩⟩
  have s1 := same_new (o := .lst [.ref pg, .ref pf, .ref pm]) h1
  have s2 := same_new (o := .lst [.ref pg, .ref pf, .ref pb]) h2
  have s3 := same_new (o := .lst [.ref w1, .ref w2]) hlr
  have s13 := s1.trans (s2.trans s3)
  have row1 : RowAt _ w1 ⟨g, f, ms⟩ := ⟨pg, pf, pm, (s2.trans s3) _ _ (upd_same (H := H0)), s13 _ _ hg, s13 _ _ hf, hm.same s13⟩
  have row2 : RowAt _ w2 ⟨g, f, mb⟩ := ⟨pg, pf, pb, s3 _ _ upd_same, s13 _ _ hg, s13 _ _ hf, hb.same s13⟩
  have hl3 : (upd (upd (upd H0 w1 (.lst [.ref pg, .ref pf, .ref pm])) w2 (.lst [.ref pg, .ref pf, .ref pb])) lr (.lst [.ref w1, .ref w2])) lr = some (.lst [.ref w1, .ref w2]) := upd_same
  have nla : lr ≠ a := (src.same (s1.trans s2)).fresh hlr
  have n1l : w1 ≠ lr := ne_of_none (s2 _ _ (upd_same (H := H0))) hlr
  have n2l : w2 ≠ lr := ne_of_none upd_same hlr
  have n1a : w1 ≠ a := src.fresh h1
  have n2a : w2 ≠ a := (src.same s1).fresh h2
  have nl0 : ∀ b o, H0 b = some o → b ≠ lr := fun b o e => ne_of_none ((s1.trans s2) _ _ e) hlr
  revert row1 row2 hl3 s13
  generalize upd (upd (upd H0 w1 (.lst [.ref pg, .ref pf, .ref pm])) w2 (.lst [.ref pg, .ref pf, .ref pb])) lr (.lst [.ref w1, .ref w2]) = H3
  intro s13 row1 row2 hl3
  have src3 := src.same s13
  -- rows.append
  refine ⟨_, rfl, Or.inl ⟨rfl, _, SqL.of hl3⟩, _, rfl, _, rfl, pg, _, rfl, Or.inr (SqT.of (s13 _ _ hg)), a, _, rfl, src3, by omega, by omega, fun p3 x3 H4 hp3 v3 l3 src4 kb4 => ?_⟩
  refine ⟨_, rfl, _, rfl, (by show 3 ≤ sizeLine; decide), fun w3 h3 => ?_⟩
  obtain ⟨sx, sy, sc, haS⟩ := id src3
  have s5 := same_new (o := .lst [.ref p3, .ref pf, .ref pm]) h3
  have hl5 := s5 _ _ (kb4 _ _ nla hl3)
  have n3l : w3 ≠ lr := (ne_of_none (kb4 _ _ nla hl3) h3).symm
  have up : ∀ {b : Addr} {xs : List V}, H0 b = some (.tup xs) → H4 b = some (.tup xs) := fun e => kb4 _ _ (tup_ne haS (s13 _ _ e)) (s13 _ _ e)
  have hm4 := (hm.same s13).keep haS kb4
  have row3 : RowAt _ w3 ⟨x3, f, ms⟩ := ⟨p3, pf, pm, upd_same (H := H4), s5 _ _ hp3, s5 _ _ (up hf), hm4.same s5⟩
  refine ⟨lr, _, _, rfl, rfl, hl5, (by show 2 < sizeLine; decide), ?_⟩
  have ku := KeepBut.upd lr (upd H4 w3 (.lst [.ref p3, .ref pf, .ref pm])) (.lst ([.ref w1, .ref w2] ++ [.ref w3]))
  have row1 := ((row1.keep haS n1a kb4).same s5).keep hl5 n1l ku
  have row2 := ((row2.keep haS n2a kb4).same s5).keep hl5 n2l ku
  have row3 := row3.keep hl5 n3l ku
  have src6 : Sr _ a := (src4.same s5).keep nla.symm ku
  have hl6 : (upd (upd H4 w3 (.lst [.ref p3, .ref pf, .ref pm])) lr (.lst ([.ref w1, .ref w2] ++ [.ref w3]))) lr = some (.lst ([.ref w1, .ref w2] ++ [.ref w3])) := upd_same
  have kb6 : KeepBut a H0 (upd (upd H4 w3 (.lst [.ref p3, .ref pf, .ref pm])) lr (.lst ([.ref w1, .ref w2] ++ [.ref w3]))) := fun b o nb e => ku _ _ (nl0 b o e) (s5 _ _ (kb4 _ _ nb (s13 _ _ e)))
  have hm6 := (hm4.same s5).keep hl5 ku
  have hg6 := ku _ _ (nl0 _ _ hg) (s5 _ _ (up hg))
  have hf6 := ku _ _ (nl0 _ _ hf) (s5 _ _ (up hf))
  have lx3 : x3.length ≤ 10 := by omega
  revert row1 row2 row3 src6 hl6 kb6 hm6 hg6 hf6
  generalize upd (upd H4 w3 (.lst [.ref p3, .ref pf, .ref pm])) lr (.lst ([.ref w1, .ref w2] ++ [.ref w3])) = H6
  intro row1 row2 row3 src6 hl6 kb6 hm6 hg6 hf6
  -- rows = rows + [[..], [..]]
  refine ⟨_, rfl, _, rfl, _, rfl, (by show 1 ≤ sizeLine; decide), fun p4 h4 => catA_ok ((same_new h4) _ _ hf6) upd_same (by show f.length + 1 ≤ 5000; omega) fun p5 H8 s8 hp5 => ?_⟩
  have s68 := (same_new (o := .tup [.non]) h4).trans s8
  refine ⟨_, rfl, (by show 3 ≤ sizeLine; decide), fun w4 h4' => ⟨_, rfl, _, rfl, _, rfl, (by show 3 ≤ sizeLine; decide), fun w5 h5' => ⟨(by show 2 ≤ sizeLine; decide), fun l2 hl2 => ?_⟩⟩⟩
  have t1 := same_new (o := .lst [.ref pg, .ref p5, .ref pm]) h4'
  have t2 := same_new (o := .lst [.ref pf, .ref pg, .ref pm]) h5'
  have t3 := same_new (o := .lst [.ref w4, .ref w5]) hl2
  refine ⟨lr, l2, _, _, rfl, rfl, (s68.trans (t1.trans (t2.trans t3))) _ _ hl6, upd_same, (by show 5 ≤ sizeLine; decide), fun lr2 hlr2 => ?_⟩
  have t4 := same_new (o := .lst (([.ref w1, .ref w2] ++ [.ref w3]) ++ [.ref w4, .ref w5])) hlr2
  have e6 := s68.trans (t1.trans (t2.trans (t3.trans t4)))
  have row4 : RowAt _ w4 ⟨g, f ++ [.non], ms⟩ := ⟨pg, p5, pm, (t2.trans (t3.trans t4)) _ _ (upd_same (H := H8)), e6 _ _ hg6, (t1.trans (t2.trans (t3.trans t4))) _ _ hp5, hm6.same e6⟩
  have row5 : RowAt _ w5 ⟨f, g, ms⟩ := ⟨pf, pg, pm, (t3.trans t4) _ _ upd_same, e6 _ _ hf6, e6 _ _ hg6, hm6.same e6⟩
  have em0 := s68.trans (t1.trans (t2.trans t3))
  have nw1 : w1 ≠ lr2 := by
    obtain ⟨_, _, _, e, _⟩ := id row1
    exact ne_of_none (em0 _ _ e) hlr2
  have nw2 : w2 ≠ lr2 := by
    obtain ⟨_, _, _, e, _⟩ := id row2
    exact ne_of_none (em0 _ _ e) hlr2
  have nw3 : w3 ≠ lr2 := by
    obtain ⟨_, _, _, e, _⟩ := id row3
    exact ne_of_none (em0 _ _ e) hlr2
  have nw4 : w4 ≠ lr2 := ne_of_none ((t2.trans t3) _ _ (upd_same (H := H8))) hlr2
  have nw5 : w5 ≠ lr2 := ne_of_none (t3 _ _ upd_same) hlr2
  have nl2 : ∀ b o, H6 b = some o → b ≠ lr2 := fun b o e => ne_of_none (em0 _ _ e) hlr2
  have row1 := row1.same e6
  have row2 := row2.same e6
  have row3 := row3.same e6
  have hl9 : (upd (upd (upd (upd H8 w4 (.lst [.ref pg, .ref p5, .ref pm])) w5 (.lst [.ref pf, .ref pg, .ref pm])) l2 (.lst [.ref w4, .ref w5])) lr2 (.lst (([.ref w1, .ref w2] ++ [.ref w3]) ++ [.ref w4, .ref w5]))) lr2 = some (.lst (([.ref w1, .ref w2] ++ [.ref w3]) ++ [.ref w4, .ref w5])) := upd_same
  have n2a2 : lr2 ≠ a := (src6.same em0).fresh hlr2
  revert row1 row2 row3 row4 row5 hl9 e6
  generalize upd (upd (upd (upd H8 w4 (.lst [.ref pg, .ref p5, .ref pm])) w5 (.lst [.ref pf, .ref pg, .ref pm])) l2 (.lst [.ref w4, .ref w5])) lr2 (.lst (([.ref w1, .ref w2] ++ [.ref w3]) ++ [.ref w4, .ref w5])) = H9
  intro e6 row4 row5 row1 row2 row3 hl9
  -- rows.append
  have src9 := src6.same e6
  have hm9 := hm6.same e6
  obtain ⟨xs, tx, axs, lxs⟩ := hm9.all am
  refine ⟨_, rfl, Or.inl ⟨rfl, _, SqL.of hl9⟩, _, rfl, _, rfl, _, rfl, (by show 1 ≤ sizeLine; decide), fun p6 h6 => ⟨(by show 1 ≤ sizeLine; decide), fun p7 ob od h7 => ?_⟩⟩
  have u1 := same_new (o := .tup [.str "step"]) h6
  have u2 := same_new (o := .frz ob (.tup [.ref p6])) h7
  refine cat_ok (tx.same (u1.trans u2)) ⟨ob, od, upd_same⟩ (by show xs.length + 1 ≤ 5000; omega) fun p8 H12 s12 t8 => ?_
  have s912 := u1.trans (u2.trans s12)
  have ax8 : AllMv H12 (xs ++ [.ref p6]) := (axs.same s912).app (AllMv.one ((u2.trans s12) _ _ (upd_same (H := H9))) (.inl rfl))
  obtain ⟨ms8, hm8, lm8, am8⟩ := moves_of t8 ax8
  have lm8 : ms8.length ≤ 200 := by
    rw [lm8, List.length_append]
    show xs.length + 1 ≤ 200
    omega
  refine ⟨(by show 3 ≤ sizeLine; decide), fun w6 h6' => ?_⟩
  have u3 := same_new (o := .lst [.ref pg, .ref pf, .ref p8]) h6'
  have e13 := s912.trans u3
  have hl13 := e13 _ _ hl9
  have nw6 : w6 ≠ lr2 := (ne_of_none (s912 _ _ hl9) h6').symm
  refine ⟨lr2, _, _, rfl, rfl, hl13, (by show 5 < sizeLine; decide), ?_⟩
  have ku := KeepBut.upd lr2 (upd H12 w6 (.lst [.ref pg, .ref pf, .ref p8])) (.lst ((([.ref w1, .ref w2] ++ [.ref w3]) ++ [.ref w4, .ref w5]) ++ [.ref w6]))
  have e613 := e6.trans e13
  have row6 : RowAt (upd H12 w6 (.lst [.ref pg, .ref pf, .ref p8])) w6 ⟨g, f, ms8⟩ := ⟨pg, pf, p8, upd_same, e613 _ _ hg6, e613 _ _ hf6, hm8.same u3⟩
  have row1 := (row1.same e13).keep hl13 nw1 ku
  have row2 := (row2.same e13).keep hl13 nw2 ku
  have row3 := (row3.same e13).keep hl13 nw3 ku
  have row4 := (row4.same e13).keep hl13 nw4 ku
  have row5 := (row5.same e13).keep hl13 nw5 ku
  have row6 := row6.keep hl13 nw6 ku
  have hm14 := ((hm9.same e13).keep hl13 ku)
  have v1g : Vals1 g := ⟨by omega, vg⟩
  have v1f : Vals1 f := ⟨by omega, vf⟩
  have v1n : Vals1 (f ++ [.non]) := ⟨by rw [List.length_append]; show f.length + 1 ≤ 100; omega, fun x hx => (List.mem_append.mp hx).elim (vf x) fun h => .inl (List.mem_singleton.mp h)⟩
  have m1 : Moves1 ms := ⟨by omega, am⟩
  have m2 : Moves1 mb := ⟨lb, ab⟩
  have m8 : Moves1 ms8 := ⟨lm8, am8⟩
  refine tail _ _ _ pg pf pm lr2 _ _ _ [⟨g, f, ms⟩, ⟨g, f, mb⟩, ⟨x3, f, ms⟩, ⟨g, f ++ [.non], ms⟩, ⟨f, g, ms⟩, ⟨g, f, ms8⟩] ?_ ⟨[w1, w2, w3, w4, w5, w6], upd_same, rfl, ?_⟩ (by show 0 < 6; decide) (by show 6 ≤ 10; decide) ?_ ?_
  · obtain ⟨ys, ty, _⟩ := hm14.all am
    exact ⟨ys, ty⟩
  · intro i b r h1 h2
    match i, h1, h2 with
    | 0, h1, h2 => simp at h1 h2; subst h1 h2; exact row1
    | 1, h1, h2 => simp at h1 h2; subst h1 h2; exact row2
    | 2, h1, h2 => simp at h1 h2; subst h1 h2; exact row3
    | 3, h1, h2 => simp at h1 h2; subst h1 h2; exact row4
    | 4, h1, h2 => simp at h1 h2; subst h1 h2; exact row5
    | 5, h1, h2 => simp at h1 h2; subst h1 h2; exact row6
    | n + 6, h1, h2 => simp at h1
  · intro r hr
    simp only [List.mem_cons, List.not_mem_nil, or_false] at hr
    rcases hr with rfl | rfl | rfl | rfl | rfl | rfl
    · exact ⟨v1g, v1f, m1⟩
    · exact ⟨v1g, v1f, m2⟩
    · exact ⟨v3, v1f, m1⟩
    · exact ⟨v1g, v1n, m1⟩
    · exact ⟨v1f, v1g, m1⟩
    · exact ⟨v1g, v1f, m8⟩
  · intro H' e
    refine k H' (((src6.same e613).keep n2a2.symm ku).same e) fun b o nb e0 => e _ _ (ku _ _ (nl2 _ _ (kb6 _ _ nb e0)) (e613 _ _ (kb6 _ _ nb e0)))
end
end K25
set_option Elab.async false
set_option linter.all false
set_option maxRecDepth 100000
set_option maxHeartbeats 4000000
namespace K25
open PySem PySem.Spec PyProof.Rows L2 Mo
/-- tuples of one kind, one after another -/
def TupsAt (Pr : List V → Prop) (H : Hp) (ps : List Addr) : Prop := ∀ p ∈ ps, ∃ x, H p = some (.tup x) ∧ Pr x
theorem TupsAt.grow {Pr : List V → Prop} {H2 H3 : Hp} {a D p : Addr} {ps : List Addr} {l l2 x : List V} {o : HO} (h : TupsAt Pr H2 ps) (ha : H2 a = some (.lst l)) (kb : KeepBut a H2 H3) (hp : H3 p = some (.tup x)) (hx : Pr x) (hD : H3 D = some (.lst l2)) : TupsAt Pr (upd H3 D o) (ps ++ [p]) := by
  intro q hq
  rcases List.mem_append.mp hq with hq | hq
  · obtain ⟨y, h1, h2⟩ := h q hq
    have h3 := kb _ _ (tup_ne ha h1) h1
    exact ⟨y, by rw [upd_ne (tup_ne hD h3)]; exact h3, h2⟩
  · rw [List.mem_singleton.mp hq]
    exact ⟨x, by rw [upd_ne (tup_ne hD hp)]; exact hp, hx⟩
def spRight : Sp := fun vs H Q _ => ∃ a : Addr, vs = [.ref a] ∧ Sr H a ∧ ∀ H' : Hp, Sr H' a → KeepBut a H H' → Q (.bl true) H'
def spLaw (K : PySem.W.Frag) : Sp := fun vs H Q _ => ∃ (a : Addr) (ns : List Int), vs = [.ref a] ∧ SqL K H a (ns.map V.int) ∧ ns.length ≤ 63 ∧ ∀ H', Q (.bl true) H'
section
variable {P : Program} {w : World} {K : PySem.W.Frag} {mg : Str → Option Value} {base : Heap} {A : Ads}
theorem ok_law_right (T : Txt K mg A) : FnG P w K mg base CX0 10 A.a_law_right A.d_law_right ["_law_source"] spRight := by
  have nd := sc_law_right.nd
  refine Fun_okG T.f_law_right sc_law_right (fun vs H Q E h => ?_) (fun cdv A' outer s H vs Q E hr hG h => ?_)
  · obtain ⟨v, rfl, _⟩ := h
    rfl
  · obtain ⟨a, rfl, src, k⟩ := h
    obtain ⟨t6, D6, tail⟩ := right_rows (P := P) (w := w) (base := base) (outer := outer) (H := H) (Q := Q) (E := E) T hr hG
    refine ⟨_, (pss_cons (ps_set (i := 1) nd rfl (Or.inr rfl) (pe_call (ok_law_labels T) (hr.mono (by decide)) (by rfl) T.m_law_labels T.k_law_labels T.v_law_labels .nil pass0 (pa_cons (pv 0) (pa_cons pe_int pa_nil))))
      (pss_cons (ps_asg (pe_lc (own := [("_law_turn", 12)]) (g := gName 12) (tt := tYes) rfl nd (pi_list (pe_lst (pa_cons pe_int (pa_cons pe_int pa_nil)))) (blkOk_by (N := nm_law_right) (sc := defScope st_law_right) (by decide +kernel)) (fun _ _ _ _ _ => (pg_name (i := 12) nd rfl (Or.inl rfl))) (fun _ _ _ _ _ => pts_nil) (fun _ _ _ _ _ => (pe_call (ok_law_values T) (hr.mono (by decide)) (by rfl) T.m_law_values T.k_law_values T.v_law_values .nil pass0 (pa_cons (pv 0) (pa_cons (pe_call (ok_law_draw T) (hr.mono (by decide)) (by rfl) T.m_law_draw T.k_law_draw T.v_law_draw .nil pass0 (pa_cons (pv 0) (pa_cons pe_int pa_nil))) pa_nil))))) (pg_unl rfl (pgs_cons (pg_name (i := 2) nd rfl (Or.inl rfl)) (pgs_cons (pg_name (i := 3) nd rfl (Or.inl rfl)) pgs_nil))))
      (pss_cons (ps_set (i := 4) nd rfl (Or.inl rfl) (pe_ix ix_list (pe_lst (pa_cons pe_int (pa_cons pe_int (pa_cons (pe_call (ok_law_draw T) (hr.mono (by decide)) (by rfl) T.m_law_draw T.k_law_draw T.v_law_draw .nil pass0 (pa_cons (pv 0) (pa_cons pe_int pa_nil))) (pa_cons (pe_call (ok_law_draw T) (hr.mono (by decide)) (by rfl) T.m_law_draw T.k_law_draw T.v_law_draw .nil pass0 (pa_cons (pv 0) (pa_cons pe_int pa_nil))) pa_nil))))) (pe_call (ok_law_draw T) (hr.mono (by decide)) (by rfl) T.m_law_draw T.k_law_draw T.v_law_draw .nil pass0 (pa_cons (pv 0) (pa_cons pe_int pa_nil))) (fun _ _ => rfl)))
      (pss_cons (ps_set (i := 5) nd rfl (Or.inl rfl) (pe_callTy call_tuple_ofX (by rfl) T.b_tuple (by decide +kernel) (pa_cons (pe_lc (own := [("_law_turn", 12)]) (g := gName 12) (tt := tYes) rfl nd (pi_list (pe_listRg rfl (by rfl) T.b_list (prg_1 (by rfl) T.b_range (pv 4)))) (blkOk_by (N := nm_law_right) (sc := defScope st_law_right) (by decide +kernel)) (fun _ _ _ _ _ => (pg_name (i := 12) nd rfl (Or.inl rfl))) (fun _ _ _ _ _ => pts_nil) (fun _ _ _ _ _ => (pe_call (ok_law_any T) (hr.mono (by decide)) (by rfl) T.m_law_any T.k_law_any T.v_law_any .nil pass0 (pa_cons (pv 0) (pa_cons (pv 1) pa_nil))))) pa_nil)))
      (pss_cons (ps_set (i := 6) nd rfl (Or.inl rfl) (pe_call (ok_law_draw T) (hr.mono (by decide)) (by rfl) T.m_law_draw T.k_law_draw T.v_law_draw .nil pass0 (pa_cons (pv 0) (pa_cons (pe_op op_add (pv 4) pe_int) pa_nil))))
      (pss_cons (ps_set (i := 7) nd rfl (Or.inl rfl) (pe_op op_catX (pe_op op_catX (pe_slice sl_tupX (pv 5) po_none (po_some (pv 6))) (pe_tupX (pa_cons (pe_call (ok_law_any T) (hr.mono (by decide)) (by rfl) T.m_law_any T.k_law_any T.v_law_any .nil pass0 (pa_cons (pv 0) (pa_cons (pv 1) pa_nil))) pa_nil))) (pe_slice sl_tupX (pv 5) (po_some (pe_op op_add (pv 6) (pe_call (ok_law_draw T) (hr.mono (by decide)) (by rfl) T.m_law_draw T.k_law_draw T.v_law_draw .nil pass0 (pa_cons (pv 0) (pa_cons pe_int pa_nil))))) po_none)))
      D6)))))), ?_⟩
    -- boxes
    refine ⟨_, rfl, a, _, rfl, src, by decide, by decide, fun bx zs H1 hbx lz nz src1 kb1 => ?_⟩
    have nb : bx ≠ a := src1.ne hbx (by
      intro x y c z
      injection z with z
      cases zs with
      | nil => cases z
      | cons _ _ => cases z)
    -- given, first
    refine ⟨(by show 2 ≤ sizeLine; decide), fun q hq => ?_⟩
    have s2 := same_new (o := .lst [.int 0, .int 1]) hq
    have hqq : (upd H1 q (.lst [.int 0, .int 1])) q = some (.lst [.int 0, .int 1]) := upd_same
    have nq : q ≠ a := src1.fresh hq
    have src2 := src1.same s2
    refine ⟨q, rfl, ⟨_, SqL.of hqq⟩, fun D hD => lc_list (K := K) (a := q) (xs := [.int 0, .int 1]) (fun i H2 => ∃ ps : List Addr, ps.length = i ∧ TupsAt (fun x => x.length ≤ 10 ∧ ∀ y ∈ x, ValV y) H2 ps ∧ Acc a D (upd H1 q (.lst [.int 0, .int 1])) (ps.map V.ref) H2)
      ⟨[], rfl, fun _ h => (List.not_mem_nil h).elim, Acc.start src2 hD⟩ (fun i H2 _ h => SqL.of (let ⟨_, _, _, ac⟩ := h; ac.2.1 _ _ nq hqq)) ?_ ?_⟩
    · rintro i x H2 hx ⟨ps, lp, tp, ac⟩
      have hi : i < 2 := (List.getElem?_eq_some_iff.mp hx).1
      refine ⟨rfl, _, rfl, _, rfl, a, _, rfl, ac.1, by decide, by decide, fun d H3 d0 d1 src3 kb3 => ?_⟩
      refine ⟨a, d, rfl, src3, d0, by omega, fun p y H4 hp hv ly src4 kb4 => ?_⟩
      obtain ⟨sx, sy, sc, haS⟩ := id ac.1
      have kb24 := kb3.trans kb4
      obtain ⟨g1, g2, g3⟩ := Acc.step src2 hD ac src4 kb24 (by rw [List.length_map]; omega) (.ref p)
      refine ⟨_, g1, g2, ps ++ [p], by rw [List.length_append, lp]; rfl, tp.grow haS kb24 hp ⟨by omega, hv.2⟩ g1, by rw [List.map_append]; exact g3⟩
    rintro H3 ⟨ps, lp, tp, ac⟩
    have lp : ps.length = 2 := lp
    obtain ⟨pg, pf, rfl⟩ : ∃ pg pf, ps = [pg, pf] := by
      match ps, lp with
      | [x, y], _ => exact ⟨x, y, rfl⟩
    obtain ⟨g, hg, lg, vg⟩ := tp pg (by simp)
    obtain ⟨f, hf, lf, vf⟩ := tp pf (by simp)
    obtain ⟨src3, kb3, hD3⟩ := ac
    refine ⟨D, _, rfl, SqL.of hD3, rfl, _, _, rfl, _, _, rfl, rfl, ?_⟩
    have kb03 : KeepBut a H H3 := kb1.trans ((KeepBut.of_same s2).trans kb3)
    have hbx3 := kb3 _ _ nb (s2 _ _ hbx)
    -- many
    refine ⟨_, rfl, a, _, rfl, src3, by decide, by decide, fun d1 H4 a0 a1 src4 kb4 => ?_⟩
    refine ⟨_, rfl, a, _, rfl, src4, by decide, by decide, fun d2 H5 b0 b1 src5 kb5 => ?_⟩
    refine ⟨(by show 4 ≤ sizeLine; decide), fun t ht => ?_⟩
    have s6 := same_new (o := .lst [.int 0, .int 1, .int d1, .int d2]) ht
    have nt : t ≠ a := src5.fresh ht
    refine ⟨_, rfl, a, _, rfl, src5.same s6, by decide, by decide, fun d3 H7 c0 c1 src7 kb7 => ?_⟩
    obtain ⟨y, hy, ym⟩ := at_in (l := [V.int 0, .int 1, .int d1, .int d2]) c0 c1
    obtain ⟨m, rfl, m0, m1⟩ : ∃ m : Int, y = .int m ∧ 0 ≤ m ∧ m ≤ 40 := by
      simp only [List.mem_cons, List.not_mem_nil, or_false] at ym
      rcases ym with rfl | rfl | rfl | rfl
      · exact ⟨_, rfl, by decide, by decide⟩
      · exact ⟨_, rfl, by decide, by decide⟩
      · exact ⟨_, rfl, a0, by omega⟩
      · exact ⟨_, rfl, b0, by omega⟩
    refine ⟨t, _, d3, _, rfl, rfl, SqL.of (kb7 _ _ nt upd_same), hy, ?_⟩
    have kb37 : KeepBut a H3 H7 := (kb4.trans kb5).trans ((KeepBut.of_same s6).trans kb7)
    have hbx7 := kb37 _ _ nb hbx3
    obtain ⟨e1, e2, e3, haS3⟩ := id src3
    have hg7 := kb37 _ _ (tup_ne haS3 hg) hg
    have hf7 := kb37 _ _ (tup_ne haS3 hf) hf
    -- path
    refine ⟨_, rfl, m, rfl, RgOk.of_le (by omega) (by omega) (by omega) (by omega), fun q2 hq2 => ?_⟩
    have s8 := same_new (o := .lst (rgV 0 m)) hq2
    have hqq2 : (upd H7 q2 (.lst (rgV 0 m))) q2 = some (.lst (rgV 0 m)) := upd_same
    have nq2 : q2 ≠ a := src7.fresh hq2
    have src8 := src7.same s8
    refine ⟨q2, rfl, ⟨_, SqL.of hqq2⟩, fun D2 hD2 => lc_list (K := K) (a := q2) (xs := rgV 0 m) (fun i H2 => ∃ ps : List Addr, ps.length = i ∧ TupsAt MoveV H2 ps ∧ Acc a D2 (upd H7 q2 (.lst (rgV 0 m))) (ps.map V.ref) H2)
      ⟨[], rfl, fun _ h => (List.not_mem_nil h).elim, Acc.start src8 hD2⟩ (fun i H2 _ h => SqL.of (let ⟨_, _, _, ac⟩ := h; ac.2.1 _ _ nq2 hqq2)) ?_ ?_⟩
    · rintro i x H9 hx ⟨ps, lp, tp, ac⟩
      have hi := (rg_at hx).2
      refine ⟨rfl, _, rfl, _, rfl, a, bx, zs, rfl, ac.1, ac.2.1 _ _ nb (s8 _ _ hbx7), by omega, by omega, nz, fun p y H10 hp mv src10 kb10 => ?_⟩
      obtain ⟨sx, sy, sc, haS⟩ := id ac.1
      obtain ⟨g1, g2, g3⟩ := Acc.step src8 hD2 ac src10 kb10 (by rw [List.length_map]; omega) (.ref p)
      refine ⟨_, g1, g2, ps ++ [p], by rw [List.length_append, lp]; rfl, tp.grow haS kb10 hp mv g1, by rw [List.map_append]; exact g3⟩
    rintro H9 ⟨ps, lp, tp, ac⟩
    have lps : (ps.length : Int) = m := by rw [lp]; exact rg_len m0
    refine ⟨D2, _, rfl, SqL.of ac.2.2, fun pm ob od hpm => ?_⟩
    have s10 := same_new (o := .frz ob (.tup (ps.map V.ref))) hpm
    have kb710 : KeepBut a H7 (upd H9 pm (.frz ob (.tup (ps.map V.ref)))) := (KeepBut.of_same s8).trans (ac.2.1.trans (KeepBut.of_same s10))
    have tx : TX (upd H9 pm (.frz ob (.tup (ps.map V.ref)))) pm (ps.map V.ref) := ⟨ob, od, upd_same⟩
    have am : AllMv (upd H9 pm (.frz ob (.tup (ps.map V.ref)))) (ps.map V.ref) := by
      intro x hx
      obtain ⟨q, hq, rfl⟩ := List.mem_map.mp hx
      obtain ⟨m, h1, h2⟩ := tp q hq
      exact ⟨q, m, rfl, s10 _ _ h1, h2⟩
    have src10 := ac.1.same s10
    have lxs : (ps.map V.ref).length ≤ 40 := by rw [List.length_map]; omega
    obtain ⟨f1, f2, f3, haS7⟩ := id src7
    have hg10 := kb710 _ _ (tup_ne haS7 hg7) hg7
    have hf10 := kb710 _ _ (tup_ne haS7 hf7) hf7
    have hbx10 := kb710 _ _ nb hbx7
    have kb010 := kb03.trans (kb37.trans kb710)
    revert tx am src10 hg10 hf10 hbx10 kb010 lxs
    generalize upd H9 pm (.frz ob (.tup (ps.map V.ref))) = H10
    generalize ps.map V.ref = xs
    intro tx am src10 lxs hg10 hf10 hbx10 kb010
    obtain ⟨ms, hm10, lms, ams⟩ := moves_of tx am
    have txn : ∀ {H H' : Hp} {p : Addr} {l : List V}, TX H p l → Sr H a → KeepBut a H H' → TX H' p l := fun t sr kb => by
      obtain ⟨x, y, c, e⟩ := sr
      obtain ⟨ob, od, h⟩ := id t
      exact t.keep (ne_of h e (by intro z; cases z)) kb
    have mvn : ∀ {H H' : Hp} {l : List V}, AllMv H l → Sr H a → KeepBut a H H' → AllMv H' l := fun t sr kb => by
      obtain ⟨x, y, c, e⟩ := sr
      exact t.keep e kb
    -- at
    refine ⟨_, rfl, _, rfl, _, _, rfl, rfl, a, _, rfl, src10, by omega, by omega, fun d H11 g0 g1 src11 kb11 => ?_⟩
    have tx11 := txn tx src10 kb11
    have am11 := mvn am src10 kb11
    have hbx11 := kb11 _ _ nb hbx10
    -- bent
    refine ⟨_, rfl, _, rfl, _, rfl, sl_ok tx11 fun p1 H12 s12 t1 => ?_⟩
    refine ⟨_, rfl, _, rfl, a, bx, zs, rfl, src11.same s12, s12 _ _ hbx11, by omega, by omega, nz, fun p2 y H13 hp2 mv src13 kb13 => ⟨(by show 1 ≤ sizeLine; decide), fun p3 ob3 od3 h3 => ?_⟩⟩
    have s14 := same_new (o := .frz ob3 (.tup [.ref p2])) h3
    have l1 : (cutV xs none (some d)).length ≤ xs.length := cutV_length _ _ _
    have kb1114 : KeepBut a H11 (upd H13 p3 (.frz ob3 (.tup [.ref p2]))) := (KeepBut.of_same s12).trans (kb13.trans (KeepBut.of_same s14))
    refine cat_ok ((txn t1 (src11.same s12) kb13).same s14) ⟨ob3, od3, upd_same⟩ (by show _ + 1 ≤ 5000; omega) fun p4 H15 s15 t4 => ?_
    have kb1115 := kb1114.trans (KeepBut.of_same s15)
    have am15 : AllMv H15 (cutV xs none (some d) ++ [.ref p2]) := ((mvn am11 src11 kb1115).cut _ _).app (AllMv.one ((s14.trans s15) _ _ hp2) mv)
    have src15 := (src13.same s14).same s15
    refine ⟨_, rfl, _, rfl, _, rfl, a, _, rfl, src15, by decide, by decide, fun d4 H16 i0 i1 src16 kb16 => ⟨_, _, rfl, rfl, _, rfl, ?_⟩⟩
    have kb1116 := kb1115.trans kb16
    have tx16 := txn tx11 src11 kb1116
    dsimp only [tNoPart]
    refine sl_ok tx16 fun p5 H17 s17 t5 => ?_
    have l2 : (cutV xs (some (d + d4)) none).length ≤ xs.length := cutV_length _ _ _
    refine cat_ok ((txn t4 src15 kb16).same s17) t5 (by rw [List.length_append]; show _ + 1 + _ ≤ 5000; omega) fun p6 H18 s18 t6 => ?_
    have s1618 := s17.trans s18
    have am18 : AllMv H18 ((cutV xs none (some d) ++ [.ref p2]) ++ cutV xs (some (d + d4)) none) := ((mvn am15 src15 kb16).same s1618).app (((mvn am11 src11 kb1116).cut _ _).same s1618)
    obtain ⟨mb, hmb, lmb, amb⟩ := moves_of t6 am18
    have kb1018 : KeepBut a H10 H18 := kb11.trans (kb1116.trans (KeepBut.of_same s1618))
    obtain ⟨j1, j2, j3, haS10⟩ := id src10
    refine tail H18 _ a pg pf pm p6 _ _ g f ms mb (src16.same s1618) (kb1018 _ _ (tup_ne haS10 hg10) hg10) (kb1018 _ _ (tup_ne haS10 hf10) hf10) (hm10.keep haS10 kb1018) hmb lg lf vg vf (by omega) ?_ ams amb fun H' sr kb => k H' sr (kb010.trans (kb1018.trans kb))
    rw [lmb, List.length_append, List.length_append]
    show _ + 1 + _ ≤ 200
    omega
theorem ok_law (T : Txt K mg A) : FnG P w K mg base CX0 11 A.a_law A.d_law ["_law_script"] (spLaw K) := by
  have nd := sc_law.nd
  refine Fun_okG T.f_law sc_law (fun vs H Q E h => ?_) (fun cdv A' outer s H vs Q E hr hG h => ?_)
  · obtain ⟨v, ns, rfl, _⟩ := h
    rfl
  · obtain ⟨a, ns, rfl, hS, hl, k⟩ := h
    refine ⟨_, (pss_one (ps_ret (pe_callB (cr_all rfl) (by rfl) T.b_all (by decide +kernel) (pa_cons (pe_lc (own := [("_law_source", 1)]) (g := gName 1) (tt := tYes) rfl nd (pi_list (pe_call (ok_law_all T) (hr.mono (by decide)) (by rfl) T.m_law_all T.k_law_all T.v_law_all .nil pass0 (pa_cons (pv 0) pa_nil))) (blkOk_by (N := nm_law) (sc := defScope st_law) (by decide +kernel)) (fun _ _ _ _ _ => (pg_name (i := 1) nd rfl (Or.inl rfl))) (fun _ _ _ _ _ => pts_nil) (fun _ _ _ _ _ => (pe_callG (ok_law_right T) (hr.mono (by decide)) hG (by rfl) T.m_law_right T.k_law_right T.v_law_right .nil pass0 (pa_cons (pv 1) pa_nil)))) pa_nil)))), ?_⟩
    refine ⟨_, rfl, a, ns, rfl, hS, hl, fun p qs H1 lq hp hq => ?_⟩
    refine ⟨p, rfl, ⟨_, SqL.of hp⟩, fun D hD => lc_list (K := K) (a := p) (xs := qs.map V.ref) (fun i H2 => H2 p = some (.lst (qs.map V.ref)) ∧ (∀ q ∈ qs, Sr H2 q) ∧ H2 D = some (.lst (List.replicate i (V.bl true)))) ⟨(same_new hD) _ _ hp, fun q h => (hq q h).same (same_new hD), upd_same⟩
      (fun i H2 _ h => SqL.of h.1) ?_ ?_⟩
    · rintro i x H2 hx ⟨hp2, hq2, hd⟩
      rw [List.getElem?_map] at hx
      obtain ⟨q, hqi, rfl⟩ := Option.map_eq_some_iff.mp hx
      have hqm := List.mem_of_getElem? hqi
      have hi : i < qs.length := (List.getElem?_eq_some_iff.mp hqi).1
      have ne1 : ∀ q ∈ qs, p ≠ q := fun q h => (hq2 q h).ne hp2 (by
        intro x y c z
        injection z with z
        cases qs with
        | nil => cases z
        | cons _ _ => cases z)
      have ne2 : ∀ q ∈ qs, D ≠ q := fun q h => (hq q h).fresh hD
      refine ⟨rfl, _, rfl, q, rfl, hq2 q hqm, fun H3 src3 kb3 => ?_⟩
      refine ⟨_, kb3 _ _ (ne2 q hqm) hd, ?_, ?_, ?_, ?_⟩
      · rw [List.length_replicate]
        exact lt5000 (by omega)
      · rw [upd_ne (ne_of_none hp hD)]
        exact kb3 _ _ (ne1 q hqm) hp2
      · intro q1 h1
        by_cases e : q1 = q
        · subst e
          exact src3.keep (ne2 _ h1).symm (KeepBut.upd _ _ _)
        · exact ((hq2 q1 h1).keep e kb3).keep (ne2 _ h1).symm (KeepBut.upd _ _ _)
      · rw [upd_same, List.replicate_succ']
    · rintro H2 ⟨_, _, hd⟩
      refine ⟨D, List.replicate (qs.map V.ref).length true, rfl, SqL.of ?_, ?_⟩
      · rw [hd, List.map_replicate]
      · have e : (List.replicate (qs.map V.ref).length true).all id = true := by simp
        rw [e]
        exact k H2
end
end K25
set_option Elab.async false
set_option linter.all false
set_option maxRecDepth 100000
namespace K25
open PySem L2 Mo
theorem walk {l : PySem.W.OpenLaw} {q : Program} {loose : List Str} {XP : (Str → Option Value) → Heap → Prop} {YP : World → Heap → Prop} {d : DefRec} {K : Params → PySem.W.Frag} (hn : l.most = some 63) (hdf : d.params.defaults = []) (hnm : d.name = "law")
    (hY : ∀ (w : World) (h : Heap), YP w h → (K w.params).In h)
    (F : ∀ (w : World) (mg : Str → Option Value) (h : Heap), (K w.params).In h → h.Ns mainGlobals mg → ∃ A : Ads, Txt (K w.params) mg A ∧ ∀ (s : Shared) (v : Value), BindsTo s A.d_law ⟨[v], []⟩ [("_law_script", v)]) :
    PySem.W.WalkO q loose XP YP l.row.toRowW d [] (fun f vs => PySem.call f vs) := by
  refine walk_G (n := 63) (k := 11) (x := "_law_script") (sp := fun w => spLaw (K w.params)) hn (by decide) hdf ⟨rfl, by decide, by decide⟩ hY ?_ ?_
  · intro w mg fa h KX G hmg
    obtain ⟨A, T, hb⟩ := F w mg h KX G
    rw [hnm, T.m_law] at hmg
    cases hmg
    exact ⟨A.d_law, hb, fun base _ _ => ok_law T⟩
  · intro w H a ns h1 h2 _ h4
    exact ⟨a, ns, rfl, h4, h1, fun _ => rfl⟩
end K25
open PySem PySem.W PyProof.Rows
set_option maxRecDepth 100000 in
set_option maxHeartbeats 0 in
theorem PySem.Challenge.cw_momentcalls_k25_runs_made_holds : PySem.Challenge.rw_momentcalls_k25_runs_made.Holds := by
  w_on; o_law; k_head; (case hw => w_witness2)
  k_fill
  refine K25.walk (l := PySem.Challenge.rw_momentcalls_k25_runs_made) rfl rfl rfl (fun w h Y => PySem.W.kIn_of Y) ?F
  case F =>
    intro w mg h KX G
    refine' K25.txt_mk KX G ?z_abs ?z_all ?z_bool ?z_divmod ?z_enumerate ?z_int ?z_isinstance ?z_len ?z_list ?z_property ?z_range ?z_repr ?z_str ?z_sum ?z_tuple ?q_LETTERS ?q_SIGNS ?q_NOTHING ?q_YES ?q_LONGEST ?q_BRINGING ?r_BRINGING ?q_LEAVING ?r_LEAVING ?a_Run ?a0 ?l0 ?e0 ?k0 ?a1 ?l1 ?e1 ?k1 ?a2 ?l2 ?e2 ?k2 ?a3 ?l3 ?e3 ?k3 ?a4 ?l4 ?e4 ?k4 ?a5 ?l5 ?e5 ?k5 ?a6 ?l6 ?e6 ?k6 ?a7 ?i7 ?l7 ?e7 ?k7 ?a8 ?pg8 ?pt8 ?pr8 ?l8 ?e8 ?k8 ?a9 ?pg9 ?pt9 ?pr9 ?l9 ?e9 ?k9 ?a10 ?pg10 ?pt10 ?pr10 ?l10 ?e10 ?k10 ?a11 ?pg11 ?pt11 ?pr11 ?l11 ?e11 ?k11 ?a12 ?i12 ?l12 ?e12 ?k12 ?a13 ?i13 ?l13 ?e13 ?k13 ?a14 ?l14 ?e14 ?k14 ?a15 ?l15 ?e15 ?k15 ?a16 ?l16 ?e16 ?k16 ?a17 ?l17 ?e17 ?k17 ?a18 ?l18 ?e18 ?k18 ?a19 ?l19 ?e19 ?k19 ?a20 ?l20 ?e20 ?k20 ?a21 ?l21 ?e21 ?k21 ?a22 ?l22 ?e22 ?k22 ?a23 ?l23 ?e23 ?k23 ?a24 ?l24 ?e24 ?k24 ?a25 ?l25 ?e25 ?k25 ?pg_Run ?hd_Run ?po_Run ?sa_Run ?mk_Run ?kc_Run ?xc_Run ?xg_Run ?xt_Run ?xo_Run ?xn_Run ?ns_Run ?ci_Run ?tc_Run ?ki_Run_NoneType ?nf_Run_NoneType ?ki_Run_bool ?nf_Run_bool ?ki_Run_int ?nf_Run_int ?ki_Run_str ?nf_Run_str ?ki_Run_tuple ?nf_Run_tuple ?ki_Run_list ?nf_Run_list ?ki_Run_dict ?nf_Run_dict ?na_Run_parts
    (case z_abs => k_is); (case z_all => k_is); (case z_bool => k_is); (case z_divmod => k_is); (case z_enumerate => k_is); (case z_int => k_is); (case z_isinstance => k_is); (case z_len => k_is); (case z_list => k_is); (case z_property => k_is); (case z_range => k_is); (case z_repr => k_is); (case z_str => k_is); (case z_sum => k_is); (case z_tuple => k_is); (case q_LETTERS => k_is); (case q_SIGNS => k_is); (case q_NOTHING => k_is); (case q_YES => k_is); (case q_LONGEST => k_is); (case q_BRINGING => k_is); (case r_BRINGING => k_is); (case q_LEAVING => k_is); (case r_LEAVING => k_is); (case a_Run => k_is); (case a0 => k_is); (case l0 => k_is); (case e0 => k_is); (case k0 => k_is); (case a1 => k_is); (case l1 => k_is); (case e1 => k_is); (case k1 => k_is); (case a2 => k_is); (case l2 => k_is); (case e2 => k_is); (case k2 => k_is); (case a3 => k_is); (case l3 => k_is); (case e3 => k_is); (case k3 => k_is); (case a4 => k_is); (case l4 => k_is); (case e4 => k_is); (case k4 => k_is); (case a5 => k_is); (case l5 => k_is); (case e5 => k_is); (case k5 => k_is); (case a6 => k_is); (case l6 => k_is); (case e6 => k_is); (case k6 => k_is); (case a7 => k_is); (case i7 => k_is); (case l7 => k_is); (case e7 => k_is); (case k7 => k_is); (case a8 => k_is); (case pg8 => k_is); (case pt8 => k_is); (case pr8 => k_is); (case l8 => k_is); (case e8 => k_is); (case k8 => k_is); (case a9 => k_is); (case pg9 => k_is); (case pt9 => k_is); (case pr9 => k_is); (case l9 => k_is); (case e9 => k_is); (case k9 => k_is); (case a10 => k_is); (case pg10 => k_is); (case pt10 => k_is); (case pr10 => k_is); (case l10 => k_is); (case e10 => k_is); (case k10 => k_is); (case a11 => k_is); (case pg11 => k_is); (case pt11 => k_is); (case pr11 => k_is); (case l11 => k_is); (case e11 => k_is); (case k11 => k_is); (case a12 => k_is); (case i12 => k_is); (case l12 => k_is); (case e12 => k_is); (case k12 => k_is); (case a13 => k_is); (case i13 => k_is); (case l13 => k_is); (case e13 => k_is); (case k13 => k_is); (case a14 => k_is); (case l14 => k_is); (case e14 => k_is); (case k14 => k_is); (case a15 => k_is); (case l15 => k_is); (case e15 => k_is); (case k15 => k_is); (case a16 => k_is); (case l16 => k_is); (case e16 => k_is); (case k16 => k_is); (case a17 => k_is); (case l17 => k_is); (case e17 => k_is); (case k17 => k_is); (case a18 => k_is); (case l18 => k_is); (case e18 => k_is); (case k18 => k_is); (case a19 => k_is); (case l19 => k_is); (case e19 => k_is); (case k19 => k_is); (case a20 => k_is); (case l20 => k_is); (case e20 => k_is); (case k20 => k_is); (case a21 => k_is); (case l21 => k_is); (case e21 => k_is); (case k21 => k_is); (case a22 => k_is); (case l22 => k_is); (case e22 => k_is); (case k22 => k_is); (case a23 => k_is); (case l23 => k_is); (case e23 => k_is); (case k23 => k_is); (case a24 => k_is); (case l24 => k_is); (case e24 => k_is); (case k24 => k_is); (case a25 => k_is); (case l25 => k_is); (case e25 => k_is); (case k25 => k_is); (case pg_Run => k_is); (case hd_Run => k_is); (case po_Run => k_is); (case sa_Run => k_is); (case mk_Run => k_is); (case kc_Run => k_is); (case xc_Run => k_is); (case xg_Run => k_is); (case xt_Run => k_is); (case xo_Run => k_is); (case xn_Run => k_is); (case ns_Run => k_is); (case ci_Run => k_is); (case tc_Run => k_is); (case ki_Run_NoneType => k_is); (case nf_Run_NoneType => k_is); (case ki_Run_bool => k_is); (case nf_Run_bool => k_is); (case ki_Run_int => k_is); (case nf_Run_int => k_is); (case ki_Run_str => k_is); (case nf_Run_str => k_is); (case ki_Run_tuple => k_is); (case nf_Run_tuple => k_is); (case ki_Run_list => k_is); (case nf_Run_list => k_is); (case ki_Run_dict => k_is); (case nf_Run_dict => k_is); (case na_Run_parts => k_is)
#print axioms PySem.Challenge.cw_momentcalls_k25_runs_made_holds
