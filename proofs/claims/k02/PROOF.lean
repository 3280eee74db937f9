import PyProof.Rows.All
import Wide.All
import OpenK.AllK
import Wide.FinOn
import HandS.ForMost
import HandS.EndBits
import HandS.Wide
import HandS.WideBits
import HandS.IsInst
import HandS.MakeKwOnly
import PyProof.ReprRoads
import HandS.Walk
import PySem.Challenge.RW_momentcalls_k02_names_and_values
set_option Elab.async false
set_option linter.all false
set_option maxRecDepth 100000
set_option maxHeartbeats 4000000
namespace Mo
open PySem PySem.Spec PyProof.Rows L2

/-! ## Promises of defs that are run where no repr is under way -/
structure FnG (P : Program) (w : World) (K : PySem.W.Frag) (mg : Str → Option Value) (base : Heap) (CX : CXT) (k : Nat) (f : Addr) (fd : FuncData) (ps : List Str) (sp : Sp) : Prop where
  len : ∀ vs H Q E, sp vs H Q E → vs.length = ps.length
  go : ∀ (A : Around) (outer : List Env) (s : Shared) (H : Hp) (args : Args) (us : List Value) (vs : List V) (Q : VK) (E : XK), Room k A → A.guards = some [] →
    Env0 P w K mg base A outer s H → BindsTo s fd args (ps.zip us) → Vals vs us → sp vs H Q E → codeAny (model P w) A (.call (.ref f) args) (CR CX outer P w H s Q E) s

section
variable {P : Program} {w : World} {K : PySem.W.Frag} {mg : Str → Option Value} {base : Heap} {CX : CXT} {k : Nat} {f : Addr} {fd : FuncData} {ps : List Str} {sp : Sp}
theorem FnG.of (F : FnOk P w K mg base CX k f fd ps sp) : FnG P w K mg base CX k f fd ps sp :=
  ⟨F.len, fun A outer s H args us vs Q E hr _ e b v h => F.run A outer s H args us vs Q E hr e b v h⟩
theorem FnG.mono {j : Nat} (F : FnG P w K mg base CX j f fd ps sp) (h : j ≤ k) : FnG P w K mg base CX k f fd ps sp :=
  ⟨F.len, fun A outer s H args us vs Q E hr => F.go A outer s H args us vs Q E (hr.mono h)⟩
end

/-- a def's body, run where no repr is under way -/
theorem fnG_of {CX : CXT} {P : Program} {w : World} {K : PySem.W.Frag} {mg : Str → Option Value} {base : Heap} {k : Nat} {f : Addr} {name qual : Str} {params : Arguments} {body : List Stmt} {scope : Scope}
    {dV kV doc pm cdv ct oc : Value} {an od : Option Addr} {osl : Array (Option Value)} {N ps : List Str} {sp : Sp}
    (lk : K.lookup f = some ⟨oc, od, .func (PySem.W.fnOf name qual params body scope dV kV doc pm an cdv ct), osl⟩) (hcd : PySem.W.codeIn K cdv qual = true)
    (S : FnScope N ps scope) (len : ∀ vs H Q E, sp vs H Q E → vs.length = ps.length)
    (hb : ∀ (A : Around) (outer : List Env) (s : Shared) (H : Hp) (vs : List V) (Q : VK) (E : XK), Room k (A.deeper (envOfC qual scope s.heap.objs.size f cdv)) → A.guards = some [] → sp vs H Q E →
      ∃ t, PSs (cxOf CX P w K mg base N qual scope f cdv A outer s H E) body t ∧ t { nx := fun _ H' => Q .non H', rt := Q } (start N vs) H) :
    FnG P w K mg base CX (k + 1) f (PySem.W.fnOf name qual params body scope dV kV doc pm an cdv ct) ps sp := by
  refine ⟨len, ?_⟩
  intro A outer s H args us vs Q E hr hG env bnd rel wish
  have okK : K.In s.heap := env.mod.kin.keeps fun b o e => (env.bs b o e).1
  have okL : s.heap.NoLimit := env.mod.nolimit.keeps fun b o e => (env.bs b o e).1
  refine codeAny_call_function hr.depth (okK _ _ lk) rfl S.co S.gen rfl (PySem.W.codeRec_of okK hcd) (bnd _ _ _ _ ?_)
  refine wpAny_newFunctionEnv_cells S.kind ?kinds ?rest
  case kinds =>
    rintro ⟨n, v⟩ hy
    cases S.par n (List.of_mem_zip hy).1 with
    | inl q => exact Or.inl q
    | inr q => exact Or.inr ⟨q, PySem.W.cellsFrom_some _ _ _ (Or.inl q)⟩
  case rest =>
    intro env1 he s1 x
    cases he
    refine ⟨okL.keeps x.toInCall.keep, codeAny_func ?_⟩
    obtain ⟨t, ht, hq⟩ := hb A outer s H vs Q E (hr.deeper _) hG wish
    have J := inv_start (CX := CX) (E := E) (qual := qual) (f := f) (cd := cdv) S hr.hd env (len _ _ _ _ wish) rel x
    refine wpAny_mono (ht.run [] s1 (start N vs) H _ J hq) ?_ (fun e s' hs => hs)
    intro fl s' hs
    match fl, hs with
    | .ret u, ⟨v, σ', H', J', rv, q⟩ => exact ⟨v, H', J'.os, J'.bare, J'.base, J'.hok, rv, q⟩
    | .next, ⟨σ', H', J', q⟩ => exact ⟨V.non, H', J'.os, J'.bare, J'.base, J'.hok, rfl, q⟩
    | .brk, ⟨_, _, _, q⟩ => exact q.elim
    | .cont, ⟨_, _, _, q⟩ => exact q.elim

section
variable {P : Program} {w : World} {K : PySem.W.Frag} {mg : Str → Option Value} {base : Heap}
/-- a def that lets no exception out, run where no repr is under way -/
theorem Fun_okG {x qual : Str} {st : Stmt} {f : Addr} {fd : FuncData} {N ps : List Str} {k : Nat} {sp : Sp} (F : Fun K x qual st f fd) (S : FnScope N ps (defScope st)) (len : ∀ vs H Q E, sp vs H Q E → vs.length = ps.length)
    (hb : ∀ (cdv : Value) (A : Around) (outer : List Env) (s : Shared) (H : Hp) (vs : List V) (Q : VK) (E : XK), Room k (A.deeper (envOfC qual (defScope st) s.heap.objs.size f cdv)) → A.guards = some [] → sp vs H Q E →
      ∃ t, PSs (cxOf CX0 P w K mg base N qual (defScope st) f cdv A outer s H E).nox (defBody st) t ∧ t { nx := fun _ H' => Q .non H', rt := Q } (start N vs) H) :
    FnG P w K mg base CX0 (k + 1) f fd ps sp := by
  obtain ⟨oc, od, kV, doc, pm, an, cdv, ct, osl, rfl, lk, hcd⟩ := F.ex
  refine fnG_of lk hcd S len ?_
  intro A outer s H vs Q E hr hG hsp
  have ⟨t, h, q⟩ := hb cdv A outer s H vs Q E hr hG hsp
  exact ⟨t, h.nox, q⟩
end

section
variable {X : Cx} {CX : CXT} {k : Nat} {f : Addr} {fd : FuncData} {ps : List Str} {sp : Sp} {dvs : List V} {ds : List Value} {E : XK} {x : Str} {p pos : Pos} {e : Expr} {es : List Expr} {t tk : TA}
theorem run_fnG {pins : List (Addr × Obj)} {σ : L2.St} {H : Hp} {s : Shared} {Q : VK} {args : Args} {us : List Value} {vs : List V} (F : FnG X.prog X.w X.K X.mg X.base CX k f fd ps sp) (hr : Room k X.A) (hG : X.A.guards = some [])
    (hx : Passes CX X E) (I : Inv X pins σ H s) (hb : BindsTo s fd args (ps.zip us)) (r : Vals vs us) (h : sp vs H Q E) : codeAny (model X.prog X.w) X.A (.call (.ref f) args) (fun r s' => match r with
      | .ok (.ret u) => EP X pins σ Q u s'
      | .ok _ => False
      | .error e => X.xe e s') s := by
  refine codeAny_mono (F.go X.A X.stack s H args us vs Q E hr hG I.env0 hb r h) ?_
  intro r s' hq
  match r, hq with
  | .error e, hq => exact hx pins σ H s e s' I hq
  | .ok (.ret u), hq => exact I.after hq
  | .ok .next, hq => exact hq.elim
  | .ok .brk, hq => exact hq.elim
  | .ok .cont, hq => exact hq.elim
theorem call_fnG {pins : List (Addr × Obj)} {σ : L2.St} {H : Hp} {s : Shared} {Q : VK} {us : List Value} {vs : List V} (F : FnG X.prog X.w X.K X.mg X.base CX k f fd ps sp) (hr : Room k X.A) (hG : X.A.guards = some []) (hb : Binds X.K fd ps ds)
    (hd : Vals dvs ds) (hx : Passes CX X E) (I : Inv X pins σ H s) (r : Vals vs us) (h : sp (vs ++ dvs) H Q E) : wpAny (model X.prog X.w) X.A (call (.ref f) us) (EP X pins σ Q) X.xe s := by
  have r2 : Vals (vs ++ dvs) (us ++ ds) := r.append hd
  have hl := r2.length
  rw [F.len _ _ _ _ h] at hl
  refine wpAny_call (codeAny_mono (run_fnG F hr hG hx I (hb s us I.kIn hl.symm) r2 h) ?_)
  intro r s' hq
  match r, hq with
  | .error e, hq => exact hq
  | .ok (.ret u), hq => exact hq
  | .ok .next, hq => exact hq.elim
  | .ok .brk, hq => exact hq.elim
  | .ok .cont, hq => exact hq.elim
/-- f(e, ..) -/
theorem pe_callG (F : FnG X.prog X.w X.K X.mg X.base CX k f fd ps sp) (hr : Room k X.A) (hG : X.A.guards = some []) (hg : Gl X x) (hm : X.mg x = some (.ref f)) (hk : PySem.W.keepIn X.K (.ref f) = true) (hb : Binds X.K fd ps ds) (hd : Vals dvs ds) (hx : Passes CX X E)
    (ha : PA X (e :: es) t) (hdb : (x == ("__debug__" : Str)) = false := by decide) (he : starEach (e :: es) X.env = (false, eval e X.env) :: starEach es X.env := by rfl)
    (hpl : (backTo pos (starEach es X.env)).any (·.1) = false := by rfl) : PE X (.Call (.Name x p) (e :: es) [] pos) (tCall sp dvs E t) := by
  constructor
  intro pins s σ H Q I h
  apply wpAny_Call_Name_kw
  apply ld_glob I hg hm _ hdb
  apply PySem.W.callWith_K (h₀ := X.base) I.ok.mod.kin hk _ he hpl
  apply thn (ha.run pos pins s σ H _ I h)
  rintro us s1 ⟨vs, H1, I1, r, q⟩
  exact ⟨I1.kIn, call_fnG F hr hG hb hd hx I1 r q⟩
variable {ks : List Str} {kws : List Keyword} {g : List Value → List Value → List Value} {gV : List V → List V → List V}
/-- f(k = v, ..) without positional arguments -/
theorem pe_callK0 (F : FnOk X.prog X.w X.K X.mg X.base CX k f fd ps sp) (hr : Room k X.A) (hg : Gl X x) (hm : X.mg x = some (.ref f)) (hk : PySem.W.keepIn X.K (.ref f) = true) (hb : KBinds X.K fd ps ks g gV) (hx : Passes CX X E) (hkw : PK X kws tk)
    (hall : (backToKw pos (keywordEach kws X.env)).all (·.1.isSome) = true := by rfl) (hks : (backToKw pos (keywordEach kws X.env)).filterMap (·.1) = ks := by rfl) (hdb : (x == ("__debug__" : Str)) = false := by decide)
    (hpl : ((backTo pos (starEach [] X.env)).any (·.1) || (backToKw pos (keywordEach kws X.env)).any (·.1.isNone)) = false := by rfl) :
    PE X (.Call (.Name x p) [] kws pos) (tCallK sp gV E tNil tk) := by
  constructor
  intro pins s σ H Q I h
  apply wpAny_Call_Name_kw
  apply ld_glob I hg hm _ hdb
  apply PySem.W.callWith_KW0 (h₀ := X.base) I.ok.mod.kin hk hall _ hpl
  apply thn (hkw.run pos pins s σ H _ I h)
  rintro ws s2 ⟨zs, H2, I2, rz, q2⟩
  refine ⟨I2.kIn, ?_⟩
  rw [hks]
  exact run_fnk (us := []) (vs := []) F hr hb hx I2 .nil rz q2
end

/-! ## repr of data -/
section
variable {X : Cx}
/-- what repr asks of a datum, and the text that it gives -/
def rRepr (K : PySem.W.Frag) : List V → Hp → VK → Prop := fun xs H Q => ∃ (a : Addr) (d : PyData), xs = [.ref a] ∧ Dp K H (.ref a) d ∧ d.showable = true ∧ d.hasDict = false ∧ d.depth ≤ 60 ∧ d.shown.length ≤ sizeLine ∧ Q (.str d.shown) H
theorem call_repr {k : Nat} (hr : Room k X.A) (hG : X.A.guards = some []) : CallR X (.builtin "repr") (rRepr X.K) := by
  intro pins s σ H xs us Q I r h
  obtain ⟨a, d, rfl, hd, h1, h2, h3, h4, q⟩ := h
  obtain ⟨u, rfl, ru⟩ : ∃ u, us = [u] ∧ RelV (.ref a) u := by
    cases r with
    | cons r1 r2 =>
      cases r2
      exact ⟨_, rfl, r1⟩
  cases ru
  obtain ⟨as, rd⟩ := Dp.reads I d _ _ hd rfl
  have hu := hr.un
  refine repr_of_reads' rd h1 (fun z => ?_) hG (by omega) (fun b o e => e) (fun h' u tk hk => ?_) h4
  · rw [h2] at z
    cases z
  · exact ⟨.str d.shown, H, I.kept hk, ⟨u, rfl⟩, q⟩
end
end Mo

/-! ## The law's own call, its promise run where no repr is under way -/
namespace Mo
open PySem PySem.Spec PyProof.Rows L2
theorem law_coreG {P : Program} {w : World} {K : PySem.W.Frag} {mg mb : Str → Option Value} {k : Nat} {fa a : Addr} {fd : FuncData} {x : Str} {sp : Sp} {s1 : Shared} {vs : List Value} {ns : List Int} {H : Hp}
    (KX : K.In s1.heap) (gl : s1.heap.Ns mainGlobals mg) (bl : s1.heap.Ns builtinsNs mb) (bb : ∀ x : Str, x ≠ "__name__" → mb x = bootBuiltins x) (lim : s1.heap.NoLimit) (gens : s1.gens = #[])
    (obj : s1.heap.get? a = some { cls := .type "list", data := .seq vs.toArray }) (hr : Room k callerA)
    (F : ∀ base : Heap, K.In base → base.Ns mainGlobals mg → FnG P w K mg base CX0 k fa fd [x] sp) (hbind : ∀ (s : Shared) (u : Value), BindsTo s fd ⟨[u], []⟩ [(x, u)])
    (only : Only H) (wish : sp [.ref a] H (fun v _ => v = .bl true) fun _ _ _ => False) (ok : HOk P w H s1.heap) (hA : ∀ b, H b ≠ none → b = a) (hK : H a ≠ none → K.lookup a = none) :
    codeAny (model P w) callerA (.call (.ref fa) ⟨[.ref a], []⟩) (fun r s' => r = .ok (.ret (.bool true)) ∧ OldK s1.heap s'.heap ∧ s'.os = s1.os ∧ AllBare s'.gens) s1 := by
  have free : ∀ {b : Addr} {o : Obj} {es : Array DictEntry} {ep : Nat}, s1.heap.get? b = some o → o.data = .dict es ep → H b = none := by
    intro b o es ep e d
    refine Classical.byContradiction fun n => ?_
    cases hA b n
    rw [obj] at e
    cases e
    cases (show Data.seq vs.toArray _ = Data.dict es ep from d)
  have names : ∀ {b : Addr} {m : Str → Option Value}, s1.heap.Ns b m → (hidT s1.heap H).Ns b m := by
    rintro b m ⟨o, es, ep, e, d, r⟩
    exact ⟨o, es, ep, hidT_get e (free e d), d, r⟩
  have kb : K.In (hidT s1.heap H) := by
    intro b o e
    refine hidT_get (KX b o e) (Classical.byContradiction fun n => ?_)
    cases hA b n
    rw [hK n] at e
    cases e
  have md : Mod K mg (hidT s1.heap H) := by
    obtain ⟨mc, l1, l2⟩ := lim
    exact ⟨kb, names gl, ⟨mb, names bl, bb⟩, ⟨mc, names l1, l2⟩⟩
  have env : Env0 P w K mg (hidT s1.heap H) callerA [] s1 H :=
    ⟨rfl, md, fun b o e => of_hidT e, Nat.le_of_eq (hidT_size _ _), trivial, fun b hb => absurd (show b ∈ ([] : List Addr) from hb) List.not_mem_nil, ok, .of_eq gens⟩
  refine codeAny_mono ((F _ kb (names gl)).go callerA [] s1 H ⟨[.ref a], []⟩ [.ref a] [.ref a] _ _ hr rfl env (hbind s1 (.ref a)) (.cons rfl .nil) wish) ?_
  intro r s' h
  match r, h with
  | .error e, h => exact h.elim
  | .ok .next, h => exact h.elim
  | .ok .brk, h => exact h.elim
  | .ok .cont, h => exact h.elim
  | .ok (.ret u), ⟨v, H', os, bare, un, ok', rv, q⟩ =>
    cases (show v = .bl true from q)
    cases (show u = Value.bool true from rv)
    refine ⟨rfl, OldK.of_keep ?_, os, bare⟩
    intro b o e
    cases z : H b with
    | none => exact un.keep b o e z (fun y => absurd (show b ∈ ([] : List Addr) from y) List.not_mem_nil) List.not_mem_nil
    | some u =>
      cases only b with
      | inl y =>
        rw [z] at y
        cases y
      | inr y =>
        obtain ⟨ob, xs, y⟩ := y
        have e1 := (ok b _ y).1
        have e2 := (ok' b _ (un.frzs b ob _ y)).1
        rw [e] at e1
        cases e1
        exact e2
theorem law_callG {P : Program} {w : World} {K : PySem.W.Frag} {mg mb : Str → Option Value} {k : Nat} {fa a : Addr} {fd : FuncData} {x : Str} {sp : Sp} {s1 : Shared} {vs : List Value} {ns : List Int}
    (KX : K.In s1.heap) (gl : s1.heap.Ns mainGlobals mg) (bl : s1.heap.Ns builtinsNs mb) (bb : ∀ x : Str, x ≠ "__name__" → mb x = bootBuiltins x) (lim : s1.heap.NoLimit) (gens : s1.gens = #[])
    (obj : s1.heap.get? a = some { cls := .type "list", data := .seq vs.toArray }) (hi : IntsAre vs ns) (hl : ns.length ≤ sizeLine) (hr : Room k callerA)
    (F : ∀ base : Heap, K.In base → base.Ns mainGlobals mg → FnG P w K mg base CX0 k fa fd [x] sp) (hbind : ∀ (s : Shared) (u : Value), BindsTo s fd ⟨[u], []⟩ [(x, u)])
    (wish : ∀ H : Hp, Only H → SqL K H a (ns.map V.int) → sp [.ref a] H (fun v _ => v = .bl true) fun _ _ _ => False) :
    codeAny (model P w) callerA (.call (.ref fa) ⟨[.ref a], []⟩) (fun r s' => r = .ok (.ret (.bool true)) ∧ OldK s1.heap s'.heap ∧ s'.os = s1.os ∧ AllBare s'.gens) s1 := by
  have rv := vals_ints hi
  have lenV := hi.length
  by_cases hk : K.lookup a = none
  · let H : Hp := upd (fun _ => none) a (.frz { cls := .type "list", data := .seq vs.toArray } (.lst (ns.map V.int)))
    have at1 : H a = some (.frz { cls := .type "list", data := .seq vs.toArray } (.lst (ns.map V.int))) := upd_same
    have at2 : ∀ b, b ≠ a → H b = none := fun b hb => upd_ne hb
    refine law_coreG (H := H) (ns := ns) KX gl bl bb lim gens obj hr F hbind ?_ ?_ ?_ ?_ (fun _ => hk)
    · intro b
      by_cases hb : b = a
      · cases hb
        exact Or.inr ⟨_, _, at1⟩
      · exact Or.inl (at2 b hb)
    · refine wish H ?_ (Or.inl (Or.inr ⟨_, at1⟩))
      intro b
      by_cases hb : b = a
      · cases hb
        exact Or.inr ⟨_, _, at1⟩
      · exact Or.inl (at2 b hb)
    · intro b u e
      by_cases hb : b = a
      · cases hb
        rw [at1] at e
        cases e
        exact ⟨obj, by rw [List.length_map]; exact hl, vs, _, rv, obj⟩
      · rw [at2 b hb] at e
        cases e
    · intro b n
      exact Classical.byContradiction fun hb => n (at2 b hb)
  · obtain ⟨o, hk⟩ := Option.ne_none_iff_exists'.mp hk
    have e := KX a o hk
    rw [obj] at e
    cases e
    refine law_coreG (H := fun _ => none) (ns := ns) KX gl bl bb lim gens obj hr F hbind (fun _ => Or.inl rfl) (wish _ (fun _ => Or.inl rfl) ?_) ?_ (fun b n => (n rfl).elim) (fun n => (n rfl).elim)
    · exact Or.inr ⟨_, vs.toArray, _, hk, rfl, rfl, rfl, by rw [List.size_toArray, lenV]; exact hl, by simpa using rv⟩
    · intro b u z
      cases z
/-- the goal that k_head leaves, from the law's promise; the script's bits told -/
theorem walk_G {l : PySem.W.OpenLaw} {n k : Nat} {q : Program} {loose : List Str} {XP : (Str → Option Value) → Heap → Prop} {YP : World → Heap → Prop} {d : DefRec} {K : Params → PySem.W.Frag} {sp : World → Sp} {x : Str}
    (hn : l.most = some n) (hn2 : n ≤ sizeLine) (hdf : d.params.defaults = []) (hr : Room k callerA) (hY : ∀ (w : World) (h : Heap), YP w h → (K w.params).In h)
    (F : ∀ (w : World) (mg : Str → Option Value) (fa : Addr) (h : Heap), (K w.params).In h → h.Ns mainGlobals mg → mg d.name = some (.ref fa) → ∃ fd : FuncData, (∀ (s : Shared) (u : Value), BindsTo s fd ⟨[u], []⟩ [(x, u)]) ∧
        ∀ base : Heap, (K w.params).In base → base.Ns mainGlobals mg → FnG l.prog w (K w.params) mg base CX0 k fa fd [x] (sp w))
    (wish : ∀ (w : World) (H : Hp) (a : Addr) (ns : List Int), ns.length ≤ n → (∀ z ∈ ns, Builtin.Int.intBits z ≤ 1048576) → Only H → SqL (K w.params) H a (ns.map V.int) → sp w [.ref a] H (fun v _ => v = .bl true) fun _ _ _ => False) :
    PySem.W.WalkO q loose XP YP l.row.toRowW d [] (fun f vs => PySem.call f vs) := by
  apply Att.attach_callB hn hdf
  intro w s0 s1 mg mb fa o pm cd doc a vs ns G Y _ _ _ hmg hobj hints hlen hbits hg
  have KX := hY w _ Y
  obtain ⟨fd, hb, hF⟩ := F w mg fa _ KX G.T.g hmg
  exact law_callG KX G.T.g G.T.b G.T.builtins G.T.nolimit hg hobj hints (Nat.le_trans hlen hn2) hr hF hb fun H hO hS => wish w H a ns hlen hbits hO hS
end Mo
set_option Elab.async false
set_option linter.all false
set_option maxRecDepth 100000
set_option maxHeartbeats 4000000
namespace Mo
open PySem PySem.Spec PyProof.Rows L2

/-! ## all arguments by name -/
def gK {α : Type} (us ws : List α) : List α := match us with | [] => ws | _ :: _ => []
theorem kb_all {K : PySem.W.Frag} {fd : FuncData} {ps ks : List Str} (hp : ps ≠ []) (h : ∀ us : List Value, us.length = ps.length → bindArgs fd ⟨[], ks.zip us⟩ = pure (ps.zip us)) : KBinds K fd ps ks gK gK := by
  constructor
  · intro s us ws _ hl
    cases us with
    | nil => exact .of_eq (h ws hl)
    | cons a l =>
      exfalso
      apply hp
      exact List.length_eq_zero_iff.mp hl.symm
  · intro vs us zs ws r1 r2
    cases r1 with
    | nil => exact r2
    | cons _ _ => exact .nil
theorem Fun_kb {K : PySem.W.Frag} {x qual : Str} {st : Stmt} {f : Addr} {fd : FuncData} {ps ks : List Str} (F : Fun K x qual st f fd) (hp : ps ≠ [])
    (h : ∀ (kV doc pm : Value) (an : Option Addr) (cdv ct : Value) (us : List Value), us.length = ps.length → bindArgs (PySem.W.fnOf x qual (defArgs st) (defBody st) (defScope st) .none kV doc pm an cdv ct) ⟨[], ks.zip us⟩ = pure (ps.zip us)) :
    KBinds K fd ps ks gK gK := by
  obtain ⟨oc, od, kV, doc, pm, an, cdv, ct, osl, rfl, lk, hcd⟩ := F.ex
  exact kb_all hp (h kV doc pm an cdv ct)

/-! ## the kinds of things, isinstance -/
inductive Ty7 where
  | non | bl | int | str | tup | lst | dic
  deriving DecidableEq
def Ty7.nm : Ty7 → String
  | .non => "NoneType" | .bl => "bool" | .int => "int" | .str => "str" | .tup => "tuple" | .lst => "list" | .dic => "dict"
def Ty7.isi : Ty7 → Ty7 → Bool
  | .non, .non => true | .bl, .bl => true | .bl, .int => true | .int, .int => true | .str, .str => true | .tup, .tup => true | .lst, .lst => true | .dic, .dic => true | _, _ => false
theorem kit7 {K : PySem.W.Frag} (a b : Ty7) (hb : b ≠ .non) : PySem.W.kitOne K (.type a.nm) (.type b.nm) = some (a.isi b) := by
  cases b
  case non => exact absurd rfl hb
  all_goals (cases a <;> exact kit_ty (by decide +kernel))
/-- every sign below 128 -/
def Asc (z : Str) : Prop := ∀ c ∈ z.cps.toList, c < 128
theorem cps_app (x y : Str) : (x ++ y).cps.toList = x.cps.toList ++ y.cps.toList := PySem.W.KT.app_list x y
theorem Asc.app {x y : Str} (hx : Asc x) (hy : Asc y) : Asc (x ++ y) := by
  intro c hc
  rw [cps_app] at hc
  exact (List.mem_append.mp hc).elim (hx c) (hy c)
theorem Asc.by {x : Str} (h : x.cps.toList.all (fun c => decide (c < 128)) = true) : Asc x := fun c hc => of_decide_eq_true (List.all_eq_true.mp h c hc)
theorem Asc.one {z : Str} (h : Asc z) {c : Nat} (hc : c ∈ z.cps.toList) : Asc ⟨#[c]⟩ := by
  intro d hd
  have : d = c := by simpa using hd
  rw [this]
  exact h c hc
theorem Asc.num (i : Int) : Asc (Str.ofString (toString i)) := by
  intro c hc
  rw [Str.ofString_eq_toList] at hc
  obtain ⟨d, hd, rfl⟩ := List.mem_map.mp hc
  exact int_ascii i d hd
theorem Asc.ok {z : Str} (h : Asc z) : PyData.strOk z = true := by
  unfold PyData.strOk
  rw [Array.all_eq_true_iff_forall_mem]
  intro c hc
  have := h c (by simpa using hc)
  exact decide_eq_true (by omega)
theorem dp_strs {K : PySem.W.Frag} {H : Hp} : ∀ l : List Str, DpAll K H (l.map V.str) (l.map PyData.str)
  | [] => .nil
  | y :: l => .cons (.str y) (dp_strs l)
theorem dp_bls {K : PySem.W.Frag} {H : Hp} : ∀ l : List Bool, DpAll K H (l.map V.bl) (l.map PyData.bool)
  | [] => .nil
  | y :: l => .cons (.bl y) (dp_bls l)
theorem lay_strs : ∀ {l : List Str}, (∀ y ∈ l, Asc y) → PyData.canLayAll0 (l.map PyData.str) = true ∧ PyData.depthAll (l.map PyData.str) = 0
  | [], _ => ⟨rfl, rfl⟩
  | y :: l, h => by
    obtain ⟨h1, h2⟩ := lay_strs fun z hz => h z (List.mem_cons_of_mem _ hz)
    constructor
    · show (PyData.strOk y && PyData.canLayAll0 (l.map PyData.str)) = true
      rw [(h y List.mem_cons_self).ok, h1]
      rfl
    · show max 0 (PyData.depthAll (l.map PyData.str)) = 0
      rw [h2]
      rfl
theorem shaped_strs {l : List Str} (h : ∀ y ∈ l, Asc y) : SeqAt.shaped (.list (l.map PyData.str)) = true := by
  obtain ⟨h1, h2⟩ := lay_strs h
  unfold SeqAt.shaped
  rw [Bool.and_eq_true]
  refine ⟨h1, decide_eq_true ?_⟩
  show PyData.depthAll (l.map PyData.str) + 1 ≤ 64
  omega
/-- a thing of one of the seven kinds; a text of at most 5000 plain signs -/
inductive Th (H : Hp) : V → Ty7 → Prop where
  | non : Th H .non .non
  | bl (b : Bool) : Th H (.bl b) .bl
  | int (i : Int) : Th H (.int i) .int
  | str (z : Str) (h : z.length ≤ 5000) (a : Asc z) : Th H (.str z) .str
  | tup {a : Addr} {xs : List V} (h : H a = some (.tup xs)) : Th H (.ref a) .tup
  | lst {a : Addr} {xs : List V} (h : H a = some (.lst xs)) : Th H (.ref a) .lst
  | dK {a : Addr} {kvs : List (Key × V)} (h : H a = some (.dK kvs)) : Th H (.ref a) .dic
  | dT {a : Addr} {kvs : List (List Key × V)} (h : H a = some (.dT kvs)) : Th H (.ref a) .dic
theorem Th.ty {K : PySem.W.Frag} {H : Hp} {v : V} {n : Ty7} (t : Th H v n) : TyX K H v (.type n.nm) := by
  cases t with
  | non => exact .base .non
  | bl b => exact .base (.bl b)
  | int i => exact .base (.int i)
  | str z _ _ => exact .base (.str z)
  | tup h => exact .base (.tup h)
  | lst h => exact .base (.lst h)
  | dK h => exact .base (.dK h)
  | dT h => exact .base (.dT h)
theorem Th.same {H H' : Hp} {v : V} {n : Ty7} (t : Th H v n) (e : Same H H') : Th H' v n := by
  cases t with
  | non => exact .non
  | bl b => exact .bl b
  | int i => exact .int i
  | str z h a => exact .str z h a
  | tup h => exact .tup (e _ _ h)
  | lst h => exact .lst (e _ _ h)
  | dK h => exact .dK (e _ _ h)
  | dT h => exact .dT (e _ _ h)
theorem same_new {H : Hp} {p : Addr} {o : HO} (h : H p = none) : Same H (upd H p o) := fun b u e => by
  rw [upd_ne (ne_of_none e h)]
  exact e
/-- isinstance(x, T) -/
theorem isi_ok {K : PySem.W.Frag} {H : Hp} {v : V} {n : Ty7} {Q : VK} (t : Th H v n) (c : Ty7) (hc : c ≠ .non) (q : Q (.bl (n.isi c)) H) : rIsi K [v, .ty c.nm] H Q :=
  ⟨v, .ty c.nm, .type n.nm, .type c.nm, n.isi c, rfl, .ty _, t.ty, kit7 n c hc, q⟩

/-- things of the seven kinds -/
def AllTh (H : Hp) (xs : List V) : Prop := ∀ x ∈ xs, ∃ n, Th H x n
theorem AllTh.nil (H : Hp) : AllTh H [] := fun _ h => (List.not_mem_nil h).elim
theorem AllTh.cons {H : Hp} {x : V} {xs : List V} {n : Ty7} (t : Th H x n) (h : AllTh H xs) : AllTh H (x :: xs) := by
  intro y hy
  cases List.mem_cons.mp hy with
  | inl e =>
    subst e
    exact ⟨n, t⟩
  | inr e => exact h y e
theorem AllTh.app {H : Hp} {xs ys : List V} (h : AllTh H xs) (k : AllTh H ys) : AllTh H (xs ++ ys) := fun y hy => (List.mem_append.mp hy).elim (h y) (k y)
theorem AllTh.same {H H' : Hp} {xs : List V} (h : AllTh H xs) (e : Same H H') : AllTh H' xs := fun y hy => let ⟨n, t⟩ := h y hy; ⟨n, t.same e⟩
theorem log_le {m : Int} {k : Nat} (h0 : 0 < k) (h : m.natAbs < 2 ^ k) (hk : k ≤ 1920) : m.natAbs.log2 < 1920 := Nat.lt_of_lt_of_le (PySem.Flt.log2_lt_of h0 h) hk
/-! ## names of the module -/
section
variable {X : Cx} {x : Str} {pos : Pos}
theorem pe_gS {z : Str} {t : Tok} (hm : X.mg x = some (.str z t)) (hg : Gl X x := by rfl) (hd : (x == ("__debug__" : Str)) = false := by decide) : PE X (.Name x pos) (tC (.str z)) := pe_glob hg hm ⟨_, rfl⟩ hd
theorem pe_gI {i : Int} {t : Tok} (hm : X.mg x = some (.int i t)) (hg : Gl X x := by rfl) (hd : (x == ("__debug__" : Str)) = false := by decide) : PE X (.Name x pos) (tC (.int i)) := pe_glob hg hm ⟨_, rfl⟩ hd
theorem pe_gR {a : Addr} (hm : X.mg x = some (.ref a)) (hg : Gl X x := by rfl) (hd : (x == ("__debug__" : Str)) = false := by decide) : PE X (.Name x pos) (tC (.ref a)) := pe_glob hg hm rfl hd
theorem pe_ty (T : String) (hm : X.mg x = none) (hv : bootBuiltins x = some (.type T) := by decide +kernel) (hg : Gl X x := by rfl) (hn : x ≠ "__name__" := by decide) (hd : (x == ("__debug__" : Str)) = false := by decide) : PE X (.Name x pos) (tC (.ty T)) := pe_bltn hg hm hv rfl hn hd
end
theorem inV_strs (z : Str) (l : List Str) : inV (.str z) (l.map V.str) = decide (z ∈ l) := by
  induction l with
  | nil => rfl
  | cons y l ih =>
    show ((y == z) || inV (.str z) (l.map V.str)) = _
    rw [ih]
    by_cases h : y = z
    · subst h
      simp
    · have h2 : ¬ z = y := fun e => h e.symm
      simp [h, h2]
theorem len5000 {n : Nat} (h : n ≤ 5000) : n ≤ sizeLine := Nat.le_trans h (by decide)
theorem lt5000 {n : Nat} (h : n < 5000) : n < sizeLine := Nat.lt_trans h (by decide)
theorem at_in {α : Type} {l : List α} {d : Int} (h0 : 0 ≤ d) (h1 : d < (l.length : Int)) : ∃ c, atI l d = some c ∧ c ∈ l := by
  obtain ⟨j, rfl⟩ := Int.eq_ofNat_of_zero_le h0
  have hj : j < l.length := by omega
  exact ⟨l[j], atI_nat (by simp [hj]), List.getElem_mem hj⟩
theorem Asc.cut {z : Str} (h : Asc z) (lo hi : Option Int) : Asc (cutS z lo hi) := by
  intro c hc
  refine h c ?_
  have hc : c ∈ ((z.cps.toList.drop (HT.sIx z.length 0 lo)).take (HT.sIx z.length z.length hi - HT.sIx z.length 0 lo)) := by
    have := hc
    simpa [cutS] using this
  exact List.mem_of_mem_drop (List.mem_of_mem_take hc)
theorem cut_two (z : Str) {a : Int} (h : 0 ≤ a) : (cutS z none (some a)).length + (cutS z (some a) none).length ≤ z.length := by
  have e : ∀ d, HT.sIx z.length d (some a) = min a.toNat z.length := fun d => if_neg (by omega)
  have e1 : (cutS z none (some a)).length = min (HT.sIx z.length z.length (some a) - 0) z.length := by
    show (((z.cps.toList.drop 0).take (HT.sIx z.length z.length (some a) - 0)).toArray).size = _
    rw [List.size_toArray, List.length_take, List.length_drop, Array.length_toList]
    rfl
  have e2 : (cutS z (some a) none).length = min (z.length - HT.sIx z.length 0 (some a)) (z.length - HT.sIx z.length 0 (some a)) := by
    show (((z.cps.toList.drop (HT.sIx z.length 0 (some a))).take (z.length - HT.sIx z.length 0 (some a))).toArray).size = _
    rw [List.size_toArray, List.length_take, List.length_drop, Array.length_toList]
    rfl
  rw [e1, e2, e, e]
  omega
theorem one_length (c : Nat) : (⟨#[c]⟩ : Str).length = 1 := rfl
theorem app_length (x y : Str) : (x ++ y).length = x.length + y.length := strLen_append x y
/-! ## the source of draws -/
def Src (H : Hp) (a : Addr) : Prop := ∃ x y c : Int, H a = some (.lst [.int x, .int y, .int c]) ∧ 0 ≤ x ∧ x ≤ 2147483587
/-- all that was known stays, but for what stands at a -/
def KeepBut (a : Addr) (H H' : Hp) : Prop := ∀ b o, b ≠ a → H b = some o → H' b = some o
theorem KeepBut.refl (a : Addr) (H : Hp) : KeepBut a H H := fun _ _ _ h => h
theorem KeepBut.trans {a : Addr} {H H1 H2 : Hp} (x : KeepBut a H H1) (y : KeepBut a H1 H2) : KeepBut a H H2 := fun b o n h => y b o n (x b o n h)
theorem KeepBut.of_same {a : Addr} {H H' : Hp} (e : Same H H') : KeepBut a H H' := fun b o _ h => e b o h
theorem KeepBut.upd (a : Addr) (H : Hp) (o : HO) : KeepBut a H (L2.upd H a o) := fun b u n h => by
  rw [upd_ne n]
  exact h
theorem Src.same {H H' : Hp} {a : Addr} (s : Src H a) (e : Same H H') : Src H' a := by
  obtain ⟨x, y, c, h, r⟩ := s
  exact ⟨x, y, c, e _ _ h, r⟩
/-- what a draw promises -/
def spTake : Sp := fun vs H Q _ => ∃ (a : Addr) (m : Int), vs = [.ref a, .int m] ∧ Src H a ∧ 0 < m ∧ m < 1073741824 ∧ ∀ (d : Int) (H' : Hp), 0 ≤ d → d < m → Src H' a → KeepBut a H H' → Q (.int d) H'
def spSource : Sp := fun vs H Q _ => ∃ n : Int, vs = [.int n] ∧ ∀ (p : Addr) (H' : Hp), H p = none → Same H H' → Src H' p → Q (.ref p) H'
def spNumber (K : PySem.W.Frag) : Sp := fun vs H Q _ => ∃ (a : Addr) (ns : List Int) (k : Int), vs = [.ref a, .int k] ∧ SqL K H a (ns.map V.int) ∧ (∀ z ∈ ns, Builtin.Int.intBits z ≤ 1048576) ∧ 0 ≤ k ∧ k ≤ 1000 ∧
  ∀ (n : Int) (H' : Hp), Same H H' → Q (.int n) H'
end Mo
set_option Elab.async false
set_option linter.all false
set_option maxRecDepth 100000
set_option maxHeartbeats 4000000
namespace K02
open PySem PySem.Spec PyProof.Rows L2 Mo
def topS (i : Nat) : Stmt := PySem.Challenge.pw_momentcalls_k02_names_and_values.main.body.getD i (.Pass ⟨0, 0, 0, 0⟩)
abbrev st_is_name : Stmt := topS 6
abbrev nm_is_name : List Str := ["value", "sign"]
theorem sc_is_name : FnScope nm_is_name ["value"] (defScope st_is_name) := ⟨rfl, rfl, rfl, by decide +kernel, rfl, by decide +kernel, by decide +kernel⟩
abbrev st_is_operand : Stmt := topS 7
abbrev nm_is_operand : List Str := ["value"]
theorem sc_is_operand : FnScope nm_is_operand ["value"] (defScope st_is_operand) := ⟨rfl, rfl, rfl, by decide +kernel, rfl, by decide +kernel, by decide +kernel⟩
abbrev st_is_integer : Stmt := topS 8
abbrev nm_is_integer : List Str := ["value"]
theorem sc_is_integer : FnScope nm_is_integer ["value"] (defScope st_is_integer) := ⟨rfl, rfl, rfl, by decide +kernel, rfl, by decide +kernel, by decide +kernel⟩
abbrev st_is_mark : Stmt := topS 9
abbrev nm_is_mark : List Str := ["value"]
theorem sc_is_mark : FnScope nm_is_mark ["value"] (defScope st_is_mark) := ⟨rfl, rfl, rfl, by decide +kernel, rfl, by decide +kernel, by decide +kernel⟩
abbrev st_is_value : Stmt := topS 10
abbrev nm_is_value : List Str := ["value"]
theorem sc_is_value : FnScope nm_is_value ["value"] (defScope st_is_value) := ⟨rfl, rfl, rfl, by decide +kernel, rfl, by decide +kernel, by decide +kernel⟩
abbrev st_law_number : Stmt := topS 12
abbrev nm_law_number : List Str := ["_law_numbers", "_law_k", "_law_seed", "_law_item"]
theorem sc_law_number : FnScope nm_law_number ["_law_numbers", "_law_k"] (defScope st_law_number) := ⟨rfl, rfl, rfl, by decide +kernel, rfl, by decide +kernel, by decide +kernel⟩
abbrev st_law_source : Stmt := topS 13
abbrev nm_law_source : List Str := ["_law_number_here", "_law_figures"]
theorem sc_law_source : FnScope nm_law_source ["_law_number_here"] (defScope st_law_source) := ⟨rfl, rfl, rfl, by decide +kernel, rfl, by decide +kernel, by decide +kernel⟩
abbrev st_law_take : Stmt := topS 14
abbrev nm_law_take : List Str := ["_law_source_here", "_law_many", "_law_seed", "_law_digit"]
theorem sc_law_take : FnScope nm_law_take ["_law_source_here", "_law_many"] (defScope st_law_take) := ⟨rfl, rfl, rfl, by decide +kernel, rfl, by decide +kernel, by decide +kernel⟩
abbrev st_law_is_name : Stmt := topS 15
abbrev nm_law_is_name : List Str := ["_law_thing", "_law_letters", "_law_sign"]
theorem sc_law_is_name : FnScope nm_law_is_name ["_law_thing"] (defScope st_law_is_name) := ⟨rfl, rfl, rfl, by decide +kernel, rfl, by decide +kernel, by decide +kernel⟩
abbrev st_law_due : Stmt := topS 16
abbrev nm_law_due : List Str := ["_law_thing", "_law_found", "_law_mark", "_law_fixed"]
theorem sc_law_due : FnScope nm_law_due ["_law_thing"] (defScope st_law_due) := ⟨rfl, rfl, rfl, by decide +kernel, rfl, by decide +kernel, by decide +kernel⟩
abbrev st_law_string : Stmt := topS 17
abbrev nm_law_string : List Str := ["_law_source_here", "_law_signs", "_law_odd", "_law_found", "_law_turn", "_law_way", "_law_at", "_law_near"]
theorem sc_law_string : FnScope nm_law_string ["_law_source_here"] (defScope st_law_string) := ⟨rfl, rfl, rfl, by decide +kernel, rfl, by decide +kernel, by decide +kernel⟩
abbrev st_law_things : Stmt := topS 18
abbrev nm_law_things : List Str := ["_law_source_here", "_law_word_here", "_law_far", "_law_mark", "_law_found"]
theorem sc_law_things : FnScope nm_law_things ["_law_source_here"] (defScope st_law_things) := ⟨rfl, rfl, rfl, by decide +kernel, rfl, by decide +kernel, by decide +kernel⟩
abbrev st_law_right : Stmt := topS 19
abbrev nm_law_right : List Str := ["_law_source_here", "_law_thing", "_law_due_here", "_law_mates"]
theorem sc_law_right : FnScope nm_law_right ["_law_source_here"] (defScope st_law_right) := ⟨rfl, rfl, rfl, by decide +kernel, rfl, by decide +kernel, by decide +kernel⟩
abbrev st_law : Stmt := topS 20
abbrev nm_law : List Str := ["_law_numbers", "_law_k"]
theorem sc_law : FnScope nm_law ["_law_numbers"] (defScope st_law) := ⟨rfl, rfl, rfl, by decide +kernel, rfl, by decide +kernel, by decide +kernel⟩
structure Ads where
  t_LETTERS : Tok
  t_SIGNS : Tok
  t_NOTHING : Tok
  t_YES : Tok
  t_LONGEST : Tok
  a_is_name : Addr
  d_is_name : FuncData
  a_is_operand : Addr
  d_is_operand : FuncData
  a_is_integer : Addr
  d_is_integer : FuncData
  a_is_mark : Addr
  d_is_mark : FuncData
  a_is_value : Addr
  d_is_value : FuncData
  a_law_number : Addr
  d_law_number : FuncData
  a_law_source : Addr
  d_law_source : FuncData
  a_law_take : Addr
  d_law_take : FuncData
  a_law_is_name : Addr
  d_law_is_name : FuncData
  a_law_due : Addr
  d_law_due : FuncData
  a_law_string : Addr
  d_law_string : FuncData
  a_law_things : Addr
  d_law_things : FuncData
  a_law_right : Addr
  d_law_right : FuncData
  a_law : Addr
  d_law : FuncData
structure Txt (K : PySem.W.Frag) (mg : Str → Option Value) (A : Ads) : Prop where
  b_abs : mg "abs" = none
  b_all : mg "all" = none
  b_bool : mg "bool" = none
  b_divmod : mg "divmod" = none
  b_int : mg "int" = none
  b_isinstance : mg "isinstance" = none
  b_len : mg "len" = none
  b_max : mg "max" = none
  b_min : mg "min" = none
  b_range : mg "range" = none
  b_repr : mg "repr" = none
  b_str : mg "str" = none
  c_LETTERS : mg "LETTERS" = some (.str "abcdefghijklmnopqrstuvwxyz" A.t_LETTERS)
  c_SIGNS : mg "SIGNS" = some (.str "abcdefghijklmnopqrstuvwxyz0123456789" A.t_SIGNS)
  c_NOTHING : mg "NOTHING" = some (.str "nothing" A.t_NOTHING)
  c_YES : mg "YES" = some (.str "yes" A.t_YES)
  c_LONGEST : mg "LONGEST" = some (.int (8) A.t_LONGEST)
  m_is_name : mg "is_name" = some (.ref A.a_is_name)
  k_is_name : PySem.W.keepIn K (.ref A.a_is_name) = true
  f_is_name : Fun K "is_name" "is_name" st_is_name A.a_is_name A.d_is_name
  v_is_name : Binds K A.d_is_name ["value"] []
  kb_is_name : KBinds K A.d_is_name ["value"] ["value"] gK gK
  m_is_operand : mg "is_operand" = some (.ref A.a_is_operand)
  k_is_operand : PySem.W.keepIn K (.ref A.a_is_operand) = true
  f_is_operand : Fun K "is_operand" "is_operand" st_is_operand A.a_is_operand A.d_is_operand
  v_is_operand : Binds K A.d_is_operand ["value"] []
  kb_is_operand : KBinds K A.d_is_operand ["value"] ["value"] gK gK
  m_is_integer : mg "is_integer" = some (.ref A.a_is_integer)
  k_is_integer : PySem.W.keepIn K (.ref A.a_is_integer) = true
  f_is_integer : Fun K "is_integer" "is_integer" st_is_integer A.a_is_integer A.d_is_integer
  v_is_integer : Binds K A.d_is_integer ["value"] []
  m_is_mark : mg "is_mark" = some (.ref A.a_is_mark)
  k_is_mark : PySem.W.keepIn K (.ref A.a_is_mark) = true
  f_is_mark : Fun K "is_mark" "is_mark" st_is_mark A.a_is_mark A.d_is_mark
  v_is_mark : Binds K A.d_is_mark ["value"] []
  kb_is_mark : KBinds K A.d_is_mark ["value"] ["value"] gK gK
  m_is_value : mg "is_value" = some (.ref A.a_is_value)
  k_is_value : PySem.W.keepIn K (.ref A.a_is_value) = true
  f_is_value : Fun K "is_value" "is_value" st_is_value A.a_is_value A.d_is_value
  v_is_value : Binds K A.d_is_value ["value"] []
  kb_is_value : KBinds K A.d_is_value ["value"] ["value"] gK gK
  m_law_number : mg "_law_number" = some (.ref A.a_law_number)
  k_law_number : PySem.W.keepIn K (.ref A.a_law_number) = true
  f_law_number : Fun K "_law_number" "_law_number" st_law_number A.a_law_number A.d_law_number
  v_law_number : Binds K A.d_law_number ["_law_numbers", "_law_k"] []
  m_law_source : mg "_law_source" = some (.ref A.a_law_source)
  k_law_source : PySem.W.keepIn K (.ref A.a_law_source) = true
  f_law_source : Fun K "_law_source" "_law_source" st_law_source A.a_law_source A.d_law_source
  v_law_source : Binds K A.d_law_source ["_law_number_here"] []
  m_law_take : mg "_law_take" = some (.ref A.a_law_take)
  k_law_take : PySem.W.keepIn K (.ref A.a_law_take) = true
  f_law_take : Fun K "_law_take" "_law_take" st_law_take A.a_law_take A.d_law_take
  v_law_take : Binds K A.d_law_take ["_law_source_here", "_law_many"] []
  m_law_is_name : mg "_law_is_name" = some (.ref A.a_law_is_name)
  k_law_is_name : PySem.W.keepIn K (.ref A.a_law_is_name) = true
  f_law_is_name : Fun K "_law_is_name" "_law_is_name" st_law_is_name A.a_law_is_name A.d_law_is_name
  v_law_is_name : Binds K A.d_law_is_name ["_law_thing"] []
  m_law_due : mg "_law_due" = some (.ref A.a_law_due)
  k_law_due : PySem.W.keepIn K (.ref A.a_law_due) = true
  f_law_due : Fun K "_law_due" "_law_due" st_law_due A.a_law_due A.d_law_due
  v_law_due : Binds K A.d_law_due ["_law_thing"] []
  m_law_string : mg "_law_string" = some (.ref A.a_law_string)
  k_law_string : PySem.W.keepIn K (.ref A.a_law_string) = true
  f_law_string : Fun K "_law_string" "_law_string" st_law_string A.a_law_string A.d_law_string
  v_law_string : Binds K A.d_law_string ["_law_source_here"] []
  m_law_things : mg "_law_things" = some (.ref A.a_law_things)
  k_law_things : PySem.W.keepIn K (.ref A.a_law_things) = true
  f_law_things : Fun K "_law_things" "_law_things" st_law_things A.a_law_things A.d_law_things
  v_law_things : Binds K A.d_law_things ["_law_source_here"] []
  m_law_right : mg "_law_right" = some (.ref A.a_law_right)
  k_law_right : PySem.W.keepIn K (.ref A.a_law_right) = true
  f_law_right : Fun K "_law_right" "_law_right" st_law_right A.a_law_right A.d_law_right
  v_law_right : Binds K A.d_law_right ["_law_source_here"] []
  m_law : mg "law" = some (.ref A.a_law)
  k_law : PySem.W.keepIn K (.ref A.a_law) = true
  f_law : Fun K "law" "law" st_law A.a_law A.d_law
  v_law : Binds K A.d_law ["_law_numbers"] []
theorem txt_mk {K : PySem.W.Frag} {h : Heap} {mg : Str → Option Value} (X : K.In h) (G : h.Ns mainGlobals mg)
    {f_is_name : Addr} {od0 an0 : Option Addr} {sl0 : Array (Option Value)} {oc0 kV0 dc0 pm0 cd0 ct0 : Value}
    {f_is_operand : Addr} {od1 an1 : Option Addr} {sl1 : Array (Option Value)} {oc1 kV1 dc1 pm1 cd1 ct1 : Value}
    {f_is_integer : Addr} {od2 an2 : Option Addr} {sl2 : Array (Option Value)} {oc2 kV2 dc2 pm2 cd2 ct2 : Value}
    {f_is_mark : Addr} {od3 an3 : Option Addr} {sl3 : Array (Option Value)} {oc3 kV3 dc3 pm3 cd3 ct3 : Value}
    {f_is_value : Addr} {od4 an4 : Option Addr} {sl4 : Array (Option Value)} {oc4 kV4 dc4 pm4 cd4 ct4 : Value}
    {f_law_number : Addr} {od5 an5 : Option Addr} {sl5 : Array (Option Value)} {oc5 kV5 dc5 pm5 cd5 ct5 : Value}
    {f_law_source : Addr} {od6 an6 : Option Addr} {sl6 : Array (Option Value)} {oc6 kV6 dc6 pm6 cd6 ct6 : Value}
    {f_law_take : Addr} {od7 an7 : Option Addr} {sl7 : Array (Option Value)} {oc7 kV7 dc7 pm7 cd7 ct7 : Value}
    {f_law_is_name : Addr} {od8 an8 : Option Addr} {sl8 : Array (Option Value)} {oc8 kV8 dc8 pm8 cd8 ct8 : Value}
    {f_law_due : Addr} {od9 an9 : Option Addr} {sl9 : Array (Option Value)} {oc9 kV9 dc9 pm9 cd9 ct9 : Value}
    {f_law_string : Addr} {od10 an10 : Option Addr} {sl10 : Array (Option Value)} {oc10 kV10 dc10 pm10 cd10 ct10 : Value}
    {f_law_things : Addr} {od11 an11 : Option Addr} {sl11 : Array (Option Value)} {oc11 kV11 dc11 pm11 cd11 ct11 : Value}
    {f_law_right : Addr} {od12 an12 : Option Addr} {sl12 : Array (Option Value)} {oc12 kV12 dc12 pm12 cd12 ct12 : Value}
    {f_law : Addr} {od13 an13 : Option Addr} {sl13 : Array (Option Value)} {oc13 kV13 dc13 pm13 cd13 ct13 : Value}
    {t_LETTERS : Tok}
    {t_SIGNS : Tok}
    {t_NOTHING : Tok}
    {t_YES : Tok}
    {t_LONGEST : Tok}
    (a0 : PySem.W.nsIn K mainGlobals "is_name" = some (some (.ref f_is_name)))
    (l0 : K.lookup f_is_name = some ⟨oc0, od0, .func (PySem.W.fnOf "is_name" "is_name" (defArgs st_is_name) (defBody st_is_name) (defScope st_is_name) .none kV0 dc0 pm0 an0 cd0 ct0), sl0⟩)
    (e0 : PySem.W.codeIn K cd0 "is_name" = true) (k0 : PySem.W.keepIn K (.ref f_is_name) = true)
    (a1 : PySem.W.nsIn K mainGlobals "is_operand" = some (some (.ref f_is_operand)))
    (l1 : K.lookup f_is_operand = some ⟨oc1, od1, .func (PySem.W.fnOf "is_operand" "is_operand" (defArgs st_is_operand) (defBody st_is_operand) (defScope st_is_operand) .none kV1 dc1 pm1 an1 cd1 ct1), sl1⟩)
    (e1 : PySem.W.codeIn K cd1 "is_operand" = true) (k1 : PySem.W.keepIn K (.ref f_is_operand) = true)
    (a2 : PySem.W.nsIn K mainGlobals "is_integer" = some (some (.ref f_is_integer)))
    (l2 : K.lookup f_is_integer = some ⟨oc2, od2, .func (PySem.W.fnOf "is_integer" "is_integer" (defArgs st_is_integer) (defBody st_is_integer) (defScope st_is_integer) .none kV2 dc2 pm2 an2 cd2 ct2), sl2⟩)
    (e2 : PySem.W.codeIn K cd2 "is_integer" = true) (k2 : PySem.W.keepIn K (.ref f_is_integer) = true)
    (a3 : PySem.W.nsIn K mainGlobals "is_mark" = some (some (.ref f_is_mark)))
    (l3 : K.lookup f_is_mark = some ⟨oc3, od3, .func (PySem.W.fnOf "is_mark" "is_mark" (defArgs st_is_mark) (defBody st_is_mark) (defScope st_is_mark) .none kV3 dc3 pm3 an3 cd3 ct3), sl3⟩)
    (e3 : PySem.W.codeIn K cd3 "is_mark" = true) (k3 : PySem.W.keepIn K (.ref f_is_mark) = true)
    (a4 : PySem.W.nsIn K mainGlobals "is_value" = some (some (.ref f_is_value)))
    (l4 : K.lookup f_is_value = some ⟨oc4, od4, .func (PySem.W.fnOf "is_value" "is_value" (defArgs st_is_value) (defBody st_is_value) (defScope st_is_value) .none kV4 dc4 pm4 an4 cd4 ct4), sl4⟩)
    (e4 : PySem.W.codeIn K cd4 "is_value" = true) (k4 : PySem.W.keepIn K (.ref f_is_value) = true)
    (a5 : PySem.W.nsIn K mainGlobals "_law_number" = some (some (.ref f_law_number)))
    (l5 : K.lookup f_law_number = some ⟨oc5, od5, .func (PySem.W.fnOf "_law_number" "_law_number" (defArgs st_law_number) (defBody st_law_number) (defScope st_law_number) .none kV5 dc5 pm5 an5 cd5 ct5), sl5⟩)
    (e5 : PySem.W.codeIn K cd5 "_law_number" = true) (k5 : PySem.W.keepIn K (.ref f_law_number) = true)
    (a6 : PySem.W.nsIn K mainGlobals "_law_source" = some (some (.ref f_law_source)))
    (l6 : K.lookup f_law_source = some ⟨oc6, od6, .func (PySem.W.fnOf "_law_source" "_law_source" (defArgs st_law_source) (defBody st_law_source) (defScope st_law_source) .none kV6 dc6 pm6 an6 cd6 ct6), sl6⟩)
    (e6 : PySem.W.codeIn K cd6 "_law_source" = true) (k6 : PySem.W.keepIn K (.ref f_law_source) = true)
    (a7 : PySem.W.nsIn K mainGlobals "_law_take" = some (some (.ref f_law_take)))
    (l7 : K.lookup f_law_take = some ⟨oc7, od7, .func (PySem.W.fnOf "_law_take" "_law_take" (defArgs st_law_take) (defBody st_law_take) (defScope st_law_take) .none kV7 dc7 pm7 an7 cd7 ct7), sl7⟩)
    (e7 : PySem.W.codeIn K cd7 "_law_take" = true) (k7 : PySem.W.keepIn K (.ref f_law_take) = true)
    (a8 : PySem.W.nsIn K mainGlobals "_law_is_name" = some (some (.ref f_law_is_name)))
    (l8 : K.lookup f_law_is_name = some ⟨oc8, od8, .func (PySem.W.fnOf "_law_is_name" "_law_is_name" (defArgs st_law_is_name) (defBody st_law_is_name) (defScope st_law_is_name) .none kV8 dc8 pm8 an8 cd8 ct8), sl8⟩)
    (e8 : PySem.W.codeIn K cd8 "_law_is_name" = true) (k8 : PySem.W.keepIn K (.ref f_law_is_name) = true)
    (a9 : PySem.W.nsIn K mainGlobals "_law_due" = some (some (.ref f_law_due)))
    (l9 : K.lookup f_law_due = some ⟨oc9, od9, .func (PySem.W.fnOf "_law_due" "_law_due" (defArgs st_law_due) (defBody st_law_due) (defScope st_law_due) .none kV9 dc9 pm9 an9 cd9 ct9), sl9⟩)
    (e9 : PySem.W.codeIn K cd9 "_law_due" = true) (k9 : PySem.W.keepIn K (.ref f_law_due) = true)
    (a10 : PySem.W.nsIn K mainGlobals "_law_string" = some (some (.ref f_law_string)))
    (l10 : K.lookup f_law_string = some ⟨oc10, od10, .func (PySem.W.fnOf "_law_string" "_law_string" (defArgs st_law_string) (defBody st_law_string) (defScope st_law_string) .none kV10 dc10 pm10 an10 cd10 ct10), sl10⟩)
    (e10 : PySem.W.codeIn K cd10 "_law_string" = true) (k10 : PySem.W.keepIn K (.ref f_law_string) = true)
    (a11 : PySem.W.nsIn K mainGlobals "_law_things" = some (some (.ref f_law_things)))
    (l11 : K.lookup f_law_things = some ⟨oc11, od11, .func (PySem.W.fnOf "_law_things" "_law_things" (defArgs st_law_things) (defBody st_law_things) (defScope st_law_things) .none kV11 dc11 pm11 an11 cd11 ct11), sl11⟩)
    (e11 : PySem.W.codeIn K cd11 "_law_things" = true) (k11 : PySem.W.keepIn K (.ref f_law_things) = true)
    (a12 : PySem.W.nsIn K mainGlobals "_law_right" = some (some (.ref f_law_right)))
    (l12 : K.lookup f_law_right = some ⟨oc12, od12, .func (PySem.W.fnOf "_law_right" "_law_right" (defArgs st_law_right) (defBody st_law_right) (defScope st_law_right) .none kV12 dc12 pm12 an12 cd12 ct12), sl12⟩)
    (e12 : PySem.W.codeIn K cd12 "_law_right" = true) (k12 : PySem.W.keepIn K (.ref f_law_right) = true)
    (a13 : PySem.W.nsIn K mainGlobals "law" = some (some (.ref f_law)))
    (l13 : K.lookup f_law = some ⟨oc13, od13, .func (PySem.W.fnOf "law" "law" (defArgs st_law) (defBody st_law) (defScope st_law) .none kV13 dc13 pm13 an13 cd13 ct13), sl13⟩)
    (e13 : PySem.W.codeIn K cd13 "law" = true) (k13 : PySem.W.keepIn K (.ref f_law) = true)
    (z_abs : PySem.W.nsIn K mainGlobals "abs" = some none)
    (z_all : PySem.W.nsIn K mainGlobals "all" = some none)
    (z_bool : PySem.W.nsIn K mainGlobals "bool" = some none)
    (z_divmod : PySem.W.nsIn K mainGlobals "divmod" = some none)
    (z_int : PySem.W.nsIn K mainGlobals "int" = some none)
    (z_isinstance : PySem.W.nsIn K mainGlobals "isinstance" = some none)
    (z_len : PySem.W.nsIn K mainGlobals "len" = some none)
    (z_max : PySem.W.nsIn K mainGlobals "max" = some none)
    (z_min : PySem.W.nsIn K mainGlobals "min" = some none)
    (z_range : PySem.W.nsIn K mainGlobals "range" = some none)
    (z_repr : PySem.W.nsIn K mainGlobals "repr" = some none)
    (z_str : PySem.W.nsIn K mainGlobals "str" = some none)
    (q_LETTERS : PySem.W.nsIn K mainGlobals "LETTERS" = some (some (.str "abcdefghijklmnopqrstuvwxyz" t_LETTERS)))
    (q_SIGNS : PySem.W.nsIn K mainGlobals "SIGNS" = some (some (.str "abcdefghijklmnopqrstuvwxyz0123456789" t_SIGNS)))
    (q_NOTHING : PySem.W.nsIn K mainGlobals "NOTHING" = some (some (.str "nothing" t_NOTHING)))
    (q_YES : PySem.W.nsIn K mainGlobals "YES" = some (some (.str "yes" t_YES)))
    (q_LONGEST : PySem.W.nsIn K mainGlobals "LONGEST" = some (some (.int (8) t_LONGEST))) :
    ∃ A : Ads, Txt K mg A ∧ ∀ (s : Shared) (v : Value), BindsTo s A.d_law ⟨[v], []⟩ [("_law_numbers", v)] := by
  have F0 := fun_mk (st := st_is_name) l0 e0 k0
  have F1 := fun_mk (st := st_is_operand) l1 e1 k1
  have F2 := fun_mk (st := st_is_integer) l2 e2 k2
  have F3 := fun_mk (st := st_is_mark) l3 e3 k3
  have F4 := fun_mk (st := st_is_value) l4 e4 k4
  have F5 := fun_mk (st := st_law_number) l5 e5 k5
  have F6 := fun_mk (st := st_law_source) l6 e6 k6
  have F7 := fun_mk (st := st_law_take) l7 e7 k7
  have F8 := fun_mk (st := st_law_is_name) l8 e8 k8
  have F9 := fun_mk (st := st_law_due) l9 e9 k9
  have F10 := fun_mk (st := st_law_string) l10 e10 k10
  have F11 := fun_mk (st := st_law_things) l11 e11 k11
  have F12 := fun_mk (st := st_law_right) l12 e12 k12
  have F13 := fun_mk (st := st_law) l13 e13 k13
  exact ⟨⟨t_LETTERS, t_SIGNS, t_NOTHING, t_YES, t_LONGEST, f_is_name, _, f_is_operand, _, f_is_integer, _, f_is_mark, _, f_is_value, _, f_law_number, _, f_law_source, _, f_law_take, _, f_law_is_name, _, f_law_due, _, f_law_string, _, f_law_things, _, f_law_right, _, f_law, _⟩, ⟨PySem.W.mg_none_of X G z_abs,
    PySem.W.mg_none_of X G z_all,
    PySem.W.mg_none_of X G z_bool,
    PySem.W.mg_none_of X G z_divmod,
    PySem.W.mg_none_of X G z_int,
    PySem.W.mg_none_of X G z_isinstance,
    PySem.W.mg_none_of X G z_len,
    PySem.W.mg_none_of X G z_max,
    PySem.W.mg_none_of X G z_min,
    PySem.W.mg_none_of X G z_range,
    PySem.W.mg_none_of X G z_repr,
    PySem.W.mg_none_of X G z_str,
    PySem.W.mg_of X G q_LETTERS,
    PySem.W.mg_of X G q_SIGNS,
    PySem.W.mg_of X G q_NOTHING,
    PySem.W.mg_of X G q_YES,
    PySem.W.mg_of X G q_LONGEST,
    PySem.W.mg_of X G a0,
    k0,
    F0,
    F0.binds (ps := ["value"]) fun _ _ _ _ _ _ us hl => match us, hl with | [_], _ => rfl,
    Fun_kb F0 (by decide) fun _ _ _ _ _ _ us hl => match us, hl with | [_], _ => rfl,
    PySem.W.mg_of X G a1,
    k1,
    F1,
    F1.binds (ps := ["value"]) fun _ _ _ _ _ _ us hl => match us, hl with | [_], _ => rfl,
    Fun_kb F1 (by decide) fun _ _ _ _ _ _ us hl => match us, hl with | [_], _ => rfl,
    PySem.W.mg_of X G a2,
    k2,
    F2,
    F2.binds (ps := ["value"]) fun _ _ _ _ _ _ us hl => match us, hl with | [_], _ => rfl,
    PySem.W.mg_of X G a3,
    k3,
    F3,
    F3.binds (ps := ["value"]) fun _ _ _ _ _ _ us hl => match us, hl with | [_], _ => rfl,
    Fun_kb F3 (by decide) fun _ _ _ _ _ _ us hl => match us, hl with | [_], _ => rfl,
    PySem.W.mg_of X G a4,
    k4,
    F4,
    F4.binds (ps := ["value"]) fun _ _ _ _ _ _ us hl => match us, hl with | [_], _ => rfl,
    Fun_kb F4 (by decide) fun _ _ _ _ _ _ us hl => match us, hl with | [_], _ => rfl,
    PySem.W.mg_of X G a5,
    k5,
    F5,
    F5.binds (ps := ["_law_numbers", "_law_k"]) fun _ _ _ _ _ _ us hl => match us, hl with | [_, _], _ => rfl,
    PySem.W.mg_of X G a6,
    k6,
    F6,
    F6.binds (ps := ["_law_number_here"]) fun _ _ _ _ _ _ us hl => match us, hl with | [_], _ => rfl,
    PySem.W.mg_of X G a7,
    k7,
    F7,
    F7.binds (ps := ["_law_source_here", "_law_many"]) fun _ _ _ _ _ _ us hl => match us, hl with | [_, _], _ => rfl,
    PySem.W.mg_of X G a8,
    k8,
    F8,
    F8.binds (ps := ["_law_thing"]) fun _ _ _ _ _ _ us hl => match us, hl with | [_], _ => rfl,
    PySem.W.mg_of X G a9,
    k9,
    F9,
    F9.binds (ps := ["_law_thing"]) fun _ _ _ _ _ _ us hl => match us, hl with | [_], _ => rfl,
    PySem.W.mg_of X G a10,
    k10,
    F10,
    F10.binds (ps := ["_law_source_here"]) fun _ _ _ _ _ _ us hl => match us, hl with | [_], _ => rfl,
    PySem.W.mg_of X G a11,
    k11,
    F11,
    F11.binds (ps := ["_law_source_here"]) fun _ _ _ _ _ _ us hl => match us, hl with | [_], _ => rfl,
    PySem.W.mg_of X G a12,
    k12,
    F12,
    F12.binds (ps := ["_law_source_here"]) fun _ _ _ _ _ _ us hl => match us, hl with | [_], _ => rfl,
    PySem.W.mg_of X G a13,
    k13,
    F13,
    F13.binds (ps := ["_law_numbers"]) fun _ _ _ _ _ _ us hl => match us, hl with | [_], _ => rfl⟩, fun s v => .of_eq rfl⟩
end K02
set_option Elab.async false
set_option linter.all false
set_option maxRecDepth 100000
set_option maxHeartbeats 4000000
namespace K02
open PySem PySem.Spec PyProof.Rows L2 Mo
section
variable {P : Program} {w : World} {K : PySem.W.Frag} {mg : Str → Option Value} {base : Heap} {A : Ads}
theorem ok_law_take (T : Txt K mg A) : FnOk P w K mg base CX0 1 A.a_law_take A.d_law_take ["_law_source_here", "_law_many"] spTake := by
  have nd := sc_law_take.nd
  refine T.f_law_take.ok sc_law_take (fun vs H Q E h => ?_) (fun cdv A' outer s H vs Q E hr h => ?_)
  · obtain ⟨a, m, rfl, _⟩ := h
    rfl
  · obtain ⟨a, m, rfl, ⟨x, y, c, ha, x0, x1⟩, m0, m1, k⟩ := h
    refine ⟨_, (pss_cons (ps_asg (pe_op op_add (pe_ix ix_list (pv 0) pe_int (fun _ _ => rfl)) pe_int) (pg_sub (pv 0) pe_int set_list))
      (pss_cons (ps_if (pt_cmpR op_gt (pe_ix ix_list (pv 0) pe_int (fun _ _ => rfl)) pe_int (nomark _)) (pss_cons (ps_asg (pe_callB call_divmod (by rfl) T.b_divmod (by decide +kernel) (pa_cons (pe_ix ix_list (pv 0) pe_int (fun _ _ => rfl)) (pa_cons (pv 1) pa_nil))) (pg_tup rfl (pgs_cons (pg_sub (pv 0) pe_int set_list) (pgs_cons (pg_name (i := 3) nd rfl (Or.inl rfl)) pgs_nil))))
      (pss_one (ps_ret (pv 3)))) pss_nil)
      (pss_cons (ps_set (i := 2) nd rfl (Or.inl rfl) (pe_callTy call_int1 (by rfl) T.b_int (by decide +kernel) (pa_cons (pe_ix ix_list (pv 0) pe_int (fun _ _ => rfl)) pa_nil)))
      (pss_cons (ps_asg (pe_op op_mod (pe_callTy call_int1 (by rfl) T.b_int (by decide +kernel) (pa_cons (pe_op op_add (pe_op op_add (pe_op op_mul (pv 2) (pe_op op_add (pe_op op_fdiv (pv 2) pe_int) pe_int)) (pe_op op_mul pe_int (pe_ix ix_list (pv 0) pe_int (fun _ _ => rfl)))) pe_int) pa_nil)) pe_int) (pg_sub (pv 0) pe_int set_list))
      (pss_one (ps_ret (pe_op op_mod (pe_callTy call_int1 (by rfl) T.b_int (by decide +kernel) (pa_cons (pe_op op_fdiv (pe_ix ix_list (pv 0) pe_int (fun _ _ => rfl)) pe_int) pa_nil)) (pv 1)))))))), ?_⟩
    -- the count
    refine ⟨_, rfl, a, _, _, _, rfl, rfl, SqL.of ha, rfl, _, _, rfl, rfl, _, rfl, a, _, _, _, rfl, rfl, ha, rfl, ?_⟩
    -- are there figures
    refine ⟨_, rfl, a, _, _, _, rfl, rfl, SqL.of upd_same, rfl, _, _, rfl, rfl, _, rfl, ?_⟩
    refine ite2 (fun hy => ?_) (fun hy => ?_)
    · refine ⟨_, rfl, a, _, _, _, rfl, rfl, SqL.of upd_same, rfl, _, rfl, y, m, rfl, ⟨m0, m1⟩, ?_⟩
      intro p hp
      have npa : a ≠ p := ne_of_none upd_same hp
      refine ⟨p, _, rfl, SqT.of upd_same, rfl, ?_⟩
      refine ⟨_, _, rfl, _, rfl, a, _, _, _, rfl, rfl, (upd_ne npa).trans upd_same, rfl, _, _, rfl, rfl, ?_⟩
      refine ⟨_, rfl, ?_⟩
      refine k (y % m) _ (Int.emod_nonneg _ (by omega)) (Int.emod_lt_of_pos _ m0) ⟨x, y / m, c + 1, upd_same, x0, x1⟩ ?_
      intro b o hb e
      have hbp : b ≠ p := fun z => by
        subst z
        rw [upd_ne hb, e] at hp
        cases hp
      rw [upd_ne hb, upd_ne hbp, upd_ne hb]
      exact e
    · refine ⟨_, rfl, a, _, _, _, rfl, rfl, SqL.of upd_same, rfl, Or.inl ⟨x, rfl, ?_⟩⟩
      have x2 : 0 ≤ x / 7 := Int.ediv_nonneg x0 (by decide)
      refine ⟨_, rfl, _, rfl, _, _, rfl, rfl, ⟨by decide, by decide⟩, _, _, rfl, rfl, _, _, rfl, rfl, Or.inl ⟨by omega, by omega⟩,
        _, rfl, a, _, _, _, rfl, rfl, SqL.of upd_same, rfl, _, _, rfl, rfl, Or.inl ⟨by decide, by decide⟩, _, _, rfl, rfl, _, _, rfl, rfl, Or.inl ⟨_, rfl, ?_⟩⟩
      refine ⟨_, _, rfl, rfl, (by show (0 : Int) < 2147483587; decide), _, rfl, a, _, _, _, rfl, rfl, upd_same, rfl, ?_⟩
      refine ⟨_, rfl, a, _, _, _, rfl, rfl, SqL.of upd_same, rfl, _, _, rfl, rfl, ⟨by decide, by decide⟩, Or.inl ⟨_, rfl, ?_⟩⟩
      refine ⟨_, rfl, _, _, rfl, rfl, m0, ?_⟩
      refine k _ _ (Int.emod_nonneg _ (by omega)) (Int.emod_lt_of_pos _ m0) ⟨_, y, c + 1, upd_same, Int.emod_nonneg _ (by decide), ?_⟩ ?_
      · exact Int.le_of_lt (Int.emod_lt_of_pos _ (by decide))
      · intro b o hb e
        rw [upd_ne hb, upd_ne hb]
        exact e
theorem ok_law_source (T : Txt K mg A) : FnOk P w K mg base CX0 1 A.a_law_source A.d_law_source ["_law_number_here"] spSource := by
  have nd := sc_law_source.nd
  refine T.f_law_source.ok sc_law_source (fun vs H Q E h => ?_) (fun cdv A' outer s H vs Q E hr h => ?_)
  · obtain ⟨n, rfl, _⟩ := h
    rfl
  · obtain ⟨n, rfl, k⟩ := h
    refine ⟨_, (pss_cons (ps_set (i := 1) nd rfl (Or.inl rfl) (pe_ifExp (PW.pt (pw_or (pt_cmpR op_lt (pv 0) pe_int (nomark _)) (pw_or1 (pt_cmpR op_ge (pv 0) (pe_op op_pow pe_int pe_int) (nomark _))))) (pe_callB call_abs (by rfl) T.b_abs (by decide +kernel) (pa_cons (pv 0) pa_nil)) pe_int))
      (pss_one (ps_ret (pe_lst (pa_cons (pe_op op_add (pe_op op_mod (pe_callTy call_int1 (by rfl) T.b_int (by decide +kernel) (pa_cons (pe_callB call_abs (by rfl) T.b_abs (by decide +kernel) (pa_cons (pv 0) pa_nil)) pa_nil)) pe_int) pe_int) (pa_cons (pv 1) (pa_cons pe_int pa_nil))))))), ?_⟩
    have fin : ∀ y : Int, tRet (tLst (tCons (tOp (rI0 fun i j => V.int (i + j)) (tOp (rI (fun _ j => 0 < j) fun i j => .int (i % j)) (tCB (fun xs H Q => (∃ i, xs = [V.int i] ∧ Q (V.int i) H) ∨ ∃ k, xs = [V.bl k] ∧ Q (V.int (if k = true then 1 else 0)) H)
        (tCons (tCB (fun xs H Q => ∃ i, xs = [V.int i] ∧ Q (.int (if i < 0 then -i else i)) H) (tCons (tVar 0) tNil)) tNil)) (tC (.int 2147483587))) (tC (.int 1))) (tCons (tVar 1) (tCons (tC (.int 0)) tNil)))) { nx := fun _ H' => Q .non H', rt := Q } [some (.int n), some (.int y)] H := by
      intro y
      refine ⟨_, rfl, _, rfl, Or.inl ⟨_, rfl, _, _, rfl, rfl, (by show (0 : Int) < 2147483587; decide), _, _, rfl, rfl, _, rfl, (by show 3 ≤ sizeLine; decide), ?_⟩⟩
      intro p hp
      refine k p _ hp (same_new hp) ⟨_, _, _, upd_same, ?_, ?_⟩
      · have := Int.emod_nonneg (if n < 0 then -n else n) (show (2147483587 : Int) ≠ 0 by decide)
        omega
      · have := Int.emod_lt_of_pos (if n < 0 then -n else n) (show (0 : Int) < 2147483587 by decide)
        omega
    refine ⟨_, rfl, _, _, rfl, rfl, _, rfl, ?_⟩
    refine ite2 (fun _ => iteT ?_) (fun _ => ?_)
    · exact ⟨_, rfl, _, rfl, fin _⟩
    · refine ⟨_, rfl, _, _, rfl, rfl, ⟨by decide, by decide, by decide⟩, _, _, rfl, rfl, _, rfl, ?_⟩
      refine ite2 (fun _ => ?_) (fun _ => ?_)
      · exact ⟨_, rfl, _, rfl, fin _⟩
      · exact fin _
theorem ok_law_number (T : Txt K mg A) : FnOk P w K mg base CX0 1 A.a_law_number A.d_law_number ["_law_numbers", "_law_k"] (spNumber K) := by
  have nd := sc_law_number.nd
  refine T.f_law_number.ok sc_law_number (fun vs H Q E h => ?_) (fun cdv A' outer s H vs Q E hr h => ?_)
  · obtain ⟨a, ns, k, rfl, _⟩ := h
    rfl
  · obtain ⟨a, ns, i, rfl, hS, hb, i0, i1, k⟩ := h
    refine ⟨_, (pss_cons (ps_if (pt_cmpR op_lt (pv 1) (pe_callB call_len_seq (by rfl) T.b_len (by decide +kernel) (pa_cons (pv 0) pa_nil)) (nomark _)) (pss_one (ps_ret (pe_ix ix_list (pv 0) (pv 1) (fun _ _ => rfl)))) pss_nil)
      (pss_cons (ps_set (i := 2) nd rfl (Or.inl rfl) (pe_op op_add (pe_op op_add (pe_op op_mul (pe_op op_mul pe_int (pv 1)) (pv 1)) (pe_op op_mul pe_int (pv 1))) pe_int))
      (pss_cons (ps_for PassesOwn.never rfl (pi_list (pe_slice sl_list (pv 0) po_none (po_some pe_int))) (pg_name (i := 3) nd rfl (Or.inl rfl)) (pss_one (ps_set (i := 2) nd rfl (Or.inl rfl) (pe_op op_mod (pe_callTy call_int1 (by rfl) T.b_int (by decide +kernel) (pa_cons (pe_op op_add (pe_op op_add (pe_op op_mul (pv 2) pe_int) (pe_op op_mulX (pv 3) (pv 3))) (pv 1)) pa_nil)) pe_int))))
      (pss_one (ps_ret (pv 2)))))), ?_⟩
    refine ⟨_, rfl, _, rfl, a, _, rfl, Or.inl hS, _, _, rfl, rfl, _, rfl, ?_⟩
    refine ite2 (fun hi => ?_) (fun _ => ?_)
    · have hi := of_decide_eq_true hi
      rw [List.length_map] at hi
      obtain ⟨j, rfl⟩ := Int.eq_ofNat_of_zero_le i0
      have hj : j < ns.length := by omega
      refine ⟨_, rfl, _, rfl, a, _, _, V.int ns[j], rfl, rfl, hS, ?_, ?_⟩
      · refine atI_nat (by simp [hj])
      · exact k _ H (Same.refl H)
    · refine ⟨_, rfl, _, _, rfl, rfl, Or.inl ⟨by decide, by decide⟩, _, rfl, _, _, rfl, rfl, Or.inl ⟨by omega, by omega⟩, _, rfl, _, _, rfl, rfl, Or.inl ⟨by decide, by decide⟩, _, _, rfl, rfl, _, _, rfl, rfl, ?_⟩
      refine ⟨_, rfl, _, rfl, a, _, rfl, hS, ?_⟩
      intro p hp
      have hp2 : (upd H p (.lst (cutV (ns.map V.int) none (some 5)))) p = some (.lst (cutV (ns.map V.int) none (some 5))) := upd_same
      refine ⟨p, rfl, ⟨_, SqL.of hp2⟩, for_list (K := K) (a := p) (xs := cutV (ns.map V.int) none (some 5)) (fun _ σ H2 => H2 = upd H p (.lst (cutV (ns.map V.int) none (some 5))) ∧
        ∃ (z : Int) (v : Option V), z < 2 ^ 60 ∧ -(2 ^ 60) < z ∧ σ = [some (.ref a), some (.int i), some (.int z), v]) ⟨rfl, _, none, ?_, ?_, rfl⟩ (fun _ _ H2 _ h => by rw [h.1]; exact SqL.of hp2) ?_ ?_⟩
      · show 7919 * i * i + 4099 * i + 17 < 2 ^ 60
        have e : 7919 * i * i ≤ 7919 * 1000 * 1000 := Int.mul_le_mul (Int.mul_le_mul_of_nonneg_left i1 (by decide)) i1 i0 (by decide)
        omega
      · show -(2 ^ 60) < 7919 * i * i + 4099 * i + 17
        have e : 0 ≤ 7919 * i * i := Int.mul_nonneg (Int.mul_nonneg (by decide) i0) i0
        omega
      · rintro j x σ H2 hx ⟨rfl, z, v, z0, z1, rfl⟩
        obtain ⟨n, rfl, hn⟩ : ∃ n, x = V.int n ∧ n ∈ ns := by
          have hm := List.mem_of_mem_drop (List.mem_of_mem_take (List.mem_of_getElem? hx))
          obtain ⟨n, h1, h2⟩ := List.mem_map.mp hm
          exact ⟨n, h2.symm, h1⟩
        have hbn := hb n hn
        refine ⟨_, rfl, _, _, rfl, rfl, Or.inl ⟨by omega, by omega⟩, _, rfl, _, rfl, _, _, rfl, rfl, (by unfold CMulX; omega), _, _, rfl, rfl, _, rfl, _, _, rfl, rfl, Or.inl ⟨_, rfl, ?_⟩⟩
        refine ⟨_, _, rfl, rfl, (by show (0 : Int) < 2147483587; decide), ?_⟩
        refine ⟨rfl, _, _, ?_, ?_, rfl⟩
        · have := Int.emod_lt_of_pos (z * 60013 + n * n + i) (show (0 : Int) < 2147483587 by decide)
          show (z * 60013 + n * n + i) % 2147483587 < 2 ^ 60
          omega
        · have := Int.emod_nonneg (z * 60013 + n * n + i) (show (2147483587 : Int) ≠ 0 by decide)
          show -(2 ^ 60) < (z * 60013 + n * n + i) % 2147483587
          omega
      · rintro σ H2 ⟨rfl, z, v, _, _, rfl⟩
        exact ⟨_, rfl, k _ _ (same_new hp)⟩
end
end K02
set_option Elab.async false
set_option linter.all false
set_option maxRecDepth 100000
set_option maxHeartbeats 4000000
namespace K02
open PySem PySem.Spec PyProof.Rows L2 Mo
/-! ### what the checks tell -/
def isIntV : V → Bool | .int _ => true | _ => false
def isMarkV : V → Bool | .int i => decide (0 ≤ i) | _ => false
def lets : List Nat := ("abcdefghijklmnopqrstuvwxyz" : Str).cps.toList
def sgns : List Nat := ("abcdefghijklmnopqrstuvwxyz0123456789" : Str).cps.toList
def fixedB (z : Str) : Bool := decide (z = "nothing") || decide (z = "yes")
def nameB (z : Str) : Bool := decide (0 < z.length) && decide (z.length ≤ 8) && !fixedB z && decide (z.cps.toList.headD 0 ∈ lets) && z.cps.toList.all (fun c => decide (c ∈ sgns))
def isNameV : V → Bool | .str z => nameB z | _ => false
def isOperV : V → Bool | .str z => fixedB z || nameB z | _ => false
def isValV : V → Bool | .non => true | .str z => decide (z = "yes") | .int i => decide (0 ≤ i) | _ => false
theorem inV_fixed (z : Str) : inV (.str z) [.str "nothing", .str "yes"] = fixedB z := by
  rw [show [V.str "nothing", V.str "yes"] = (["nothing", "yes"] : List Str).map V.str from rfl, inV_strs]
  unfold fixedB
  rw [Bool.eq_iff_iff]
  simp
/-- a check of a thing: a truth -/
def spTell (f : V → Bool) : Sp := fun vs H Q _ => ∃ (v : V) (n : Ty7), vs = [v] ∧ Th H v n ∧ ∀ H', Same H H' → Q (.bl (f v)) H'
section
variable {P : Program} {w : World} {K : PySem.W.Frag} {mg : Str → Option Value} {base : Heap} {A : Ads}
theorem ok_is_integer (T : Txt K mg A) : FnOk P w K mg base CX0 1 A.a_is_integer A.d_is_integer ["value"] (spTell isIntV) := by
  have nd := sc_is_integer.nd
  refine T.f_is_integer.ok sc_is_integer (fun vs H Q E h => ?_) (fun cdv A' outer s H vs Q E hr h => ?_)
  · obtain ⟨v, n, rfl, _⟩ := h
    rfl
  · obtain ⟨v, n, rfl, th, k⟩ := h
    refine ⟨_, (pss_one (ps_ret (pe_and (pe_callB call_isi (by rfl) T.b_isinstance (by decide +kernel) (pa_cons (pv 0) (pa_cons (pe_ty "int" T.b_int) pa_nil))) (pe_one (pe_not (pe_callB call_isi (by rfl) T.b_isinstance (by decide +kernel) (pa_cons (pv 0) (pa_cons (pe_ty "bool" T.b_bool) pa_nil)))))))), ?_⟩
    have q := k H (Same.refl H)
    refine ⟨_, rfl, v, _, _, _, _, rfl, .ty _, th.ty, kit7 n .int (by decide), _, rfl, ?_⟩
    cases th <;> first | exact iteF q | exact iteT ⟨_, rfl, _, _, _, _, _, rfl, .ty _, (Th.int _).ty, kit7 .int .bl (by decide), _, rfl, q⟩ | exact iteT ⟨_, rfl, _, _, _, _, _, rfl, .ty _, (Th.bl _).ty, kit7 .bl .bl (by decide), _, rfl, q⟩
theorem ok_is_mark (T : Txt K mg A) : FnOk P w K mg base CX0 2 A.a_is_mark A.d_is_mark ["value"] (spTell isMarkV) := by
  have nd := sc_is_mark.nd
  refine T.f_is_mark.ok sc_is_mark (fun vs H Q E h => ?_) (fun cdv A' outer s H vs Q E hr h => ?_)
  · obtain ⟨v, n, rfl, _⟩ := h
    rfl
  · obtain ⟨v, n, rfl, th, k⟩ := h
    refine ⟨_, (pss_one (ps_ret (pe_and (pe_call (ok_is_integer T) (hr.mono (by decide)) (by rfl) T.m_is_integer T.k_is_integer T.v_is_integer .nil pass0 (pa_cons (pv 0) pa_nil)) (pe_one (pe_cmpR op_ge (pv 0) pe_int (nomark _)))))), ?_⟩
    refine ⟨_, rfl, v, n, rfl, th, fun H' e => ⟨_, rfl, ?_⟩⟩
    have q := k H' e
    cases th <;> first | exact iteF q | exact iteT ⟨_, rfl, _, _, rfl, rfl, q⟩
theorem ok_is_name (T : Txt K mg A) : FnOk P w K mg base CX0 1 A.a_is_name A.d_is_name ["value"] (spTell isNameV) := by
  have nd := sc_is_name.nd
  refine T.f_is_name.ok sc_is_name (fun vs H Q E h => ?_) (fun cdv A' outer s H vs Q E hr h => ?_)
  · obtain ⟨v, n, rfl, _⟩ := h
    rfl
  · obtain ⟨v, n, rfl, th, k⟩ := h
    refine ⟨_, (pss_cons (ps_if (PW.pt (pw_or (pt_not (pt_val (pe_callB call_isi (by rfl) T.b_isinstance (by decide +kernel) (pa_cons (pv 0) (pa_cons (pe_ty "str" T.b_str) pa_nil))))) (pw_or (pt_not (pt_chain op_lt op_le pe_int (pe_callB call_len_str (by rfl) T.b_len (by decide +kernel) (pa_cons (pv 0) pa_nil)) (pe_gI T.c_LONGEST))) (pw_or1 (pt_cmpR op_in_seq (pv 0) (pe_tup (pa_cons (pe_gS T.c_NOTHING) (pa_cons (pe_gS T.c_YES) pa_nil))) (by rfl)))))) (pss_one (ps_ret pe_bl)) pss_nil)
      (pss_one (ps_ret (pe_and (pe_cmpR op_in_sign (pe_ix ix_str (pv 0) pe_int (fun _ _ => rfl)) (pe_gS T.c_LETTERS) (by rfl)) (pe_one (pe_callB (cr_all rfl) (by rfl) T.b_all (by decide +kernel) (pa_cons (pe_lc (own := [("sign", 1)]) (g := gName 1) (tt := tYes) rfl nd (pi_str (pv 0)) (blkOk_by (N := nm_is_name) (sc := defScope st_is_name) (by decide +kernel)) (fun _ _ _ _ _ => (pg_name (i := 1) nd rfl (Or.inl rfl))) (fun _ _ _ _ _ => pts_nil) (fun _ _ _ _ _ => (pe_cmpR op_in_sign (pv 1) (pe_gS T.c_SIGNS) (by rfl)))) pa_nil)))))))
      , ?_⟩
    have q := k H (Same.refl H)
    refine ⟨_, rfl, v, _, _, _, _, rfl, .ty _, th.ty, kit7 n .str (by decide), _, rfl, ?_⟩
    cases th with
    | str z hz ha =>
      refine iteF ?_
      have hz2 := len5000 hz
      refine ⟨_, rfl, z, rfl, hz2, _, _, rfl, rfl, _, rfl, ?_⟩
      refine ite2 (fun h0 => ?_) (fun h0 => ?_)
      · have h0 := of_decide_eq_true h0
        refine ⟨_, _, rfl, rfl, _, rfl, ?_⟩
        refine ite2 (fun h1 => ?_) (fun h1 => ?_)
        · have e : nameB z = false := by
            unfold nameB
            have h2 : (8 : Int) < z.length := by simpa using h1
            have : ¬ z.length ≤ 8 := by omega
            simp [this]
          refine iteT ?_
          show Q (.bl false) H
          rw [show isNameV (V.str z) = nameB z from rfl, e] at q
          exact q
        · have h1 : z.length ≤ 8 := by
            have : decide ((z.length : Int) ≤ 8) = true := by simpa using h1
            have := of_decide_eq_true this
            omega
          refine ⟨_, rfl, (by show 2 ≤ sizeLine; decide), fun p hp => ⟨p, _, rfl, Or.inr (SqT.of upd_same), rfl, rfl, _, rfl, ?_⟩⟩
          have q2 := k _ (same_new (o := .tup [.str "nothing", .str "yes"]) hp)
          have fx : inV (.str z) [.str "nothing", .str "yes"] = fixedB z := inV_fixed z
          refine ite2 (fun h2 => ?_) (fun h2 => ?_)
          · have h2 : inV (.str z) [.str "nothing", .str "yes"] = true := h2
            have e : nameB z = false := by
              unfold nameB
              rw [← fx, h2]
              simp
            show Q (.bl false) _
            rw [show isNameV (V.str z) = nameB z from rfl, e] at q2
            exact q2
          · have h2 : ¬ inV (.str z) [.str "nothing", .str "yes"] = true := h2
            have h2 := Bool.eq_false_iff.mpr h2
            rw [fx] at h2
            have hh : ∃ c l, z.cps.toList = c :: l := by
              cases e : z.cps.toList with
              | nil =>
                have : z.length = 0 := by
                  show z.cps.size = 0
                  rw [← Array.length_toList, e]
                  rfl
                omega
              | cons c l => exact ⟨c, l, rfl⟩
            obtain ⟨c, l, ecl⟩ := hh
            refine ⟨_, rfl, z, _, c, rfl, rfl, hz2, atI_nat (j := 0) (by rw [ecl]; rfl), c, _, rfl, rfl, _, rfl, ?_⟩
            have e0 : nameB z = (decide (c ∈ lets) && z.cps.toList.all (fun c => decide (c ∈ sgns))) := by
              unfold nameB
              have hp : 0 < z.length := by omega
              rw [h2, decide_eq_true hp, decide_eq_true h1, ecl]
              simp
            rw [show isNameV (V.str z) = nameB z from rfl, e0] at k q2
            refine ite2 (fun h3 => ?_) (fun h3 => ?_)
            · have h3 : decide (c ∈ lets) = true := h3
              refine ⟨_, rfl, z, rfl, fun D hD => lc_it walk_str (fun i H2 => i ≤ z.cps.size ∧ Same H H2 ∧ H2 D = some (.lst ((z.cps.toList.take i).map fun c => V.bl (decide (c ∈ sgns))))) ⟨Nat.zero_le _, ?_, upd_same⟩ (fun _ _ _ _ => trivial) ?_ ?_⟩
              · exact (same_new hp).trans (same_new hD)
              · rintro i x H1 H2 hi ⟨_, sm, hd⟩ ⟨rfl, c2, hc, rfl⟩
                have hlen : ((z.cps.toList.take i).map fun c => V.bl (decide (c ∈ sgns))).length < sizeLine := by
                  rw [List.length_map, List.length_take]
                  exact lt5000 (Nat.lt_of_le_of_lt (Nat.min_le_left _ _) (Nat.lt_of_lt_of_le hi hz))
                refine ⟨rfl, _, rfl, c2, _, rfl, rfl, _, hd, hlen, hi, ?_, ?_⟩
                · intro b o e
                  have hb : b ≠ D := ne_of_none e ((same_new hp).free hD)
                  rw [upd_ne hb]
                  exact sm b o e
                · rw [upd_same]
                  have hc2 : z.cps.toList[i]? = some c2 := by simpa using hc
                  rw [List.take_add_one, hc2, List.map_append]
                  rfl
              · rintro H2 ⟨_, sm, hd⟩
                refine ⟨D, z.cps.toList.map fun c => decide (c ∈ sgns), rfl, SqL.of ?_, ?_⟩
                · rw [hd]
                  congr 2
                  rw [List.map_map, List.take_of_length_le (by simp)]
                  rfl
                · have := k H2 sm
                  rw [h3, Bool.true_and] at this
                  rw [List.all_map]
                  exact this
            · have h3 : ¬ decide (c ∈ lets) = true := h3
              have h3 := Bool.eq_false_iff.mpr h3
              show Q (.bl false) _
              rw [h3, Bool.false_and] at q2
              exact q2
      · have e : nameB z = false := by
          unfold nameB
          have : ¬ 0 < z.length := by simpa using h0
          simp [this]
        refine ⟨_, rfl, iteT (iteT ?_)⟩
        show Q (.bl false) H
        rw [show isNameV (V.str z) = nameB z from rfl, e] at q
        exact q
    | _ => exact iteT (iteT q)
theorem ok_is_operand (T : Txt K mg A) : FnOk P w K mg base CX0 2 A.a_is_operand A.d_is_operand ["value"] (spTell isOperV) := by
  have nd := sc_is_operand.nd
  refine T.f_is_operand.ok sc_is_operand (fun vs H Q E h => ?_) (fun cdv A' outer s H vs Q E hr h => ?_)
  · obtain ⟨v, n, rfl, _⟩ := h
    rfl
  · obtain ⟨v, n, rfl, th, k⟩ := h
    refine ⟨_, (pss_one (ps_ret (pe_and (pe_callB call_isi (by rfl) T.b_isinstance (by decide +kernel) (pa_cons (pv 0) (pa_cons (pe_ty "str" T.b_str) pa_nil))) (pe_one (pe_or (pe_cmpR op_in_seq (pv 0) (pe_tup (pa_cons (pe_gS T.c_NOTHING) (pa_cons (pe_gS T.c_YES) pa_nil))) (by rfl)) (pe_one (pe_call (ok_is_name T) (hr.mono (by decide)) (by rfl) T.m_is_name T.k_is_name T.v_is_name .nil pass0 (pa_cons (pv 0) pa_nil)))))))), ?_⟩
    have q := k H (Same.refl H)
    refine ⟨_, rfl, v, _, _, _, _, rfl, .ty _, th.ty, kit7 n .str (by decide), _, rfl, ?_⟩
    cases th with
    | str z hz ha =>
      refine iteT ?_
      refine ⟨_, rfl, (by show 2 ≤ sizeLine; decide), fun p hp => ⟨p, _, rfl, Or.inr (SqT.of upd_same), rfl, rfl, _, rfl, ?_⟩⟩
      have sm := same_new (o := .tup [.str "nothing", .str "yes"]) hp
      have fx : inV (.str z) [.str "nothing", .str "yes"] = fixedB z := inV_fixed z
      refine ite2 (fun h2 => ?_) (fun h2 => ?_)
      · have h2 : inV (.str z) [.str "nothing", .str "yes"] = true := h2
        have q2 := k _ sm
        rw [show isOperV (V.str z) = (fixedB z || nameB z) from rfl, ← fx, h2, Bool.true_or] at q2
        exact q2
      · have h2 : ¬ inV (.str z) [.str "nothing", .str "yes"] = true := h2
        have h2 := Bool.eq_false_iff.mpr h2
        refine ⟨_, rfl, .str z, .str, rfl, .str z hz ha, fun H' e => ?_⟩
        have q2 := k _ (sm.trans e)
        rw [show isOperV (V.str z) = (fixedB z || nameB z) from rfl, ← fx, h2, Bool.false_or] at q2
        exact q2
    | _ => exact iteF q
theorem ok_is_value (T : Txt K mg A) : FnOk P w K mg base CX0 3 A.a_is_value A.d_is_value ["value"] (spTell isValV) := by
  have nd := sc_is_value.nd
  refine T.f_is_value.ok sc_is_value (fun vs H Q E h => ?_) (fun cdv A' outer s H vs Q E hr h => ?_)
  · obtain ⟨v, n, rfl, _⟩ := h
    rfl
  · obtain ⟨v, n, rfl, th, k⟩ := h
    refine ⟨_, (pss_one (ps_ret (pe_or (pe_cmpR op_isN (pv 0) pe_non (nomark _)) (pe_or (pe_and (pe_callB call_isi (by rfl) T.b_isinstance (by decide +kernel) (pa_cons (pv 0) (pa_cons (pe_ty "str" T.b_str) pa_nil))) (pe_one (pe_cmpR op_eq (pv 0) (pe_gS T.c_YES) (nomark _)))) (pe_one (pe_call (ok_is_mark T) (hr.mono (by decide)) (by rfl) T.m_is_mark T.k_is_mark T.v_is_mark .nil pass0 (pa_cons (pv 0) pa_nil))))))), ?_⟩
    have q := k H (Same.refl H)
    refine ⟨_, rfl, rfl, _, rfl, ?_⟩
    have e := th
    cases th with
    | non => exact q
    | str z hz ha =>
      refine ⟨_, rfl, _, _, _, _, _, rfl, .ty _, e.ty, kit7 .str .str (by decide), _, rfl, _, rfl, rfl, _, rfl, ?_⟩
      refine ite2 (fun h2 => ?_) (fun h2 => ?_)
      · have h2 : z = "yes" := by
          have := of_decide_eq_true h2
          injection this
        rw [show isValV (V.str z) = decide (z = "yes") from rfl, decide_eq_true h2] at q
        exact q
      · have h2 : ¬ z = "yes" := fun e => h2 (by subst e; rfl)
        refine ⟨_, rfl, .str z, .str, rfl, .str z hz ha, fun H' sm => ?_⟩
        have q2 := k _ sm
        rw [show isValV (V.str z) = decide (z = "yes") from rfl, decide_eq_false h2] at q2
        exact q2
    | _ =>
      refine ⟨_, rfl, _, _, _, _, _, rfl, .ty _, e.ty, kit7 _ .str (by decide), _, rfl, _, rfl, _, rfl, _, _, rfl, e, fun H' sm => ?_⟩
      exact k _ sm
end
end K02
set_option Elab.async false
set_option linter.all false
set_option maxRecDepth 100000
set_option maxHeartbeats 4000000
namespace K02
open PySem PySem.Spec PyProof.Rows L2 Mo
theorem lets_digits : (("abcdefghijklmnopqrstuvwxyz" : Str) ++ ("0123456789" : Str)) = ("abcdefghijklmnopqrstuvwxyz0123456789" : Str) := by decide +kernel
theorem str_nil {z : Str} (h : z.length = 0) : z = "" := by
  obtain ⟨c⟩ := z
  have : c = #[] := Array.size_eq_zero_iff.mp h
  subst this
  rfl
section
variable {P : Program} {w : World} {K : PySem.W.Frag} {mg : Str → Option Value} {base : Heap} {A : Ads}
theorem ok_law_is_name (T : Txt K mg A) : FnOk P w K mg base CX0 1 A.a_law_is_name A.d_law_is_name ["_law_thing"] (spTell isNameV) := by
  have nd := sc_law_is_name.nd
  refine T.f_law_is_name.ok sc_law_is_name (fun vs H Q E h => ?_) (fun cdv A' outer s H vs Q E hr h => ?_)
  · obtain ⟨v, n, rfl, _⟩ := h
    rfl
  · obtain ⟨v, n, rfl, th, k⟩ := h
    refine ⟨_, (pss_cons (ps_if (PW.pt (pw_or (pt_not (pt_val (pe_callB call_isi (by rfl) T.b_isinstance (by decide +kernel) (pa_cons (pv 0) (pa_cons (pe_ty "str" T.b_str) pa_nil))))) (pw_or (pt_cmpR op_in_seq (pv 0) (pe_lst (pa_cons pe_str (pa_cons pe_str (pa_cons pe_str pa_nil)))) (by rfl)) (pw_or1 (pt_cmpR op_gt (pe_callB call_len_str (by rfl) T.b_len (by decide +kernel) (pa_cons (pv 0) pa_nil)) pe_int (nomark _)))))) (pss_one (ps_ret pe_bl)) pss_nil)
      (pss_cons (ps_set (i := 1) nd rfl (Or.inr rfl) pe_str)
      (pss_cons (ps_if (pt_cmpR op_notIn_sign (pe_ix ix_str (pv 0) pe_int (fun _ _ => rfl)) (pv 1) (by rfl)) (pss_one (ps_ret pe_bl)) pss_nil)
      (pss_one (ps_ret (pe_cmpR (op_eqD hr.units) (pe_lc (own := [("_law_sign", 2)]) (g := gName 2) rfl nd (pi_str (pv 0)) (blkOk_by (N := nm_law_is_name) (sc := defScope st_law_is_name) (by decide +kernel)) (fun _ _ _ _ _ => (pg_name (i := 2) nd rfl (Or.inl rfl))) (fun _ _ _ _ _ => (pts_one (pt_cmpR op_notIn_sign (pv 2) (pe_op op_add_str (pv 1) pe_str) (by rfl)))) (fun _ _ _ _ _ => (pv 2))) (pe_lst pa_nil) (nomark _))))))), ?_⟩
    have q := k H (Same.refl H)
    refine ⟨_, rfl, v, _, _, _, _, rfl, .ty _, th.ty, kit7 n .str (by decide), _, rfl, ?_⟩
    cases th with
    | str z hz ha =>
      have hz2 := len5000 hz
      refine iteF ?_
      refine ⟨_, rfl, (by show 3 ≤ sizeLine; decide), fun p hp => ⟨p, _, rfl, Or.inl (SqL.of upd_same), rfl, rfl, _, rfl, ?_⟩⟩
      have sm := same_new (o := .lst [.str "", .str "nothing", .str "yes"]) hp
      have fx : inV (.str z) [.str "", .str "nothing", .str "yes"] = (decide (z = "") || fixedB z) := by
        rw [show [V.str "", V.str "nothing", V.str "yes"] = (["", "nothing", "yes"] : List Str).map V.str from rfl, inV_strs]
        unfold fixedB
        rw [Bool.eq_iff_iff]
        simp
      refine ite2 (fun h2 => ?_) (fun h2 => ?_)
      · have h2 : inV (.str z) [.str "", .str "nothing", .str "yes"] = true := h2
        rw [fx] at h2
        have e : nameB z = false := by
          unfold nameB
          rcases Bool.or_eq_true _ _ ▸ h2 with h3 | h3
          · have := of_decide_eq_true h3
            subst this
            rfl
          · rw [h3]
            simp
        have q2 := k _ sm
        rw [show isNameV (V.str z) = nameB z from rfl, e] at q2
        exact q2
      · have h2 : ¬ inV (.str z) [.str "", .str "nothing", .str "yes"] = true := h2
        have h2 := Bool.eq_false_iff.mpr h2
        rw [fx] at h2
        obtain ⟨h3, h4⟩ := Bool.or_eq_false_iff.mp h2
        have h3 := of_decide_eq_false h3
        refine ⟨_, rfl, z, rfl, hz2, _, _, rfl, rfl, _, rfl, ?_⟩
        refine ite2 (fun h5 => ?_) (fun h5 => ?_)
        · have e : nameB z = false := by
            unfold nameB
            have := of_decide_eq_true h5
            have : ¬ z.length ≤ 8 := by omega
            simp [this]
          have q2 := k _ sm
          rw [show isNameV (V.str z) = nameB z from rfl, e] at q2
          exact q2
        · have h5 : z.length ≤ 8 := by
            have := of_decide_eq_false (Bool.eq_false_iff.mpr h5)
            omega
          have hp0 : 0 < z.length := Nat.pos_of_ne_zero fun e => h3 (str_nil e)
          obtain ⟨c, l, ecl⟩ : ∃ c l, z.cps.toList = c :: l := by
            cases e : z.cps.toList with
            | nil =>
              have : z.length = 0 := by
                show z.cps.size = 0
                rw [← Array.length_toList, e]
                rfl
              omega
            | cons c l => exact ⟨c, l, rfl⟩
          have e0 : nameB z = (decide (c ∈ lets) && z.cps.toList.all (fun c => decide (c ∈ sgns))) := by
            unfold nameB
            rw [h4, decide_eq_true hp0, decide_eq_true h5, ecl]
            simp
          rw [show isNameV (V.str z) = nameB z from rfl, e0] at k
          refine ⟨_, rfl, z, _, c, rfl, rfl, hz2, atI_nat (j := 0) (by rw [ecl]; rfl), _, rfl, c, _, rfl, rfl, _, rfl, ?_⟩
          refine ite2 (fun h6 => ?_) (fun h6 => ?_)
          · have h6 : (!decide (c ∈ lets)) = true := h6
            have h6 : decide (c ∈ lets) = false := by simpa using h6
            have q2 := k _ sm
            rw [h6, Bool.false_and] at q2
            exact q2
          · have h6 : ¬ (!decide (c ∈ lets)) = true := h6
            have h6 : decide (c ∈ lets) = true := by simpa using h6
            refine ⟨_, rfl, z, rfl, fun D hD => lc_it walk_str (fun i H2 => i ≤ z.cps.size ∧ Same H H2 ∧ H2 D = some (.lst (((z.cps.toList.take i).filter fun c => !decide (c ∈ sgns)).map fun c => V.str ⟨#[c]⟩))) ⟨Nat.zero_le _, ?_, upd_same⟩ (fun _ _ _ _ => trivial) ?_ ?_⟩
            · exact sm.trans (same_new hD)
            · rintro i x H1 H2 hi ⟨_, sm2, hd⟩ ⟨rfl, c2, hc, rfl⟩
              have hc2 : z.cps.toList[i]? = some c2 := by simpa using hc
              have hlen : (((z.cps.toList.take i).filter fun c => !decide (c ∈ sgns)).map fun c => V.str ⟨#[c]⟩).length < sizeLine := by
                rw [List.length_map]
                refine lt5000 (Nat.lt_of_le_of_lt (List.length_filter_le _ _) ?_)
                rw [List.length_take]
                exact Nat.lt_of_le_of_lt (Nat.min_le_left _ _) (Nat.lt_of_lt_of_le hi hz)
              refine ⟨rfl, _, rfl, _, rfl, _, _, rfl, rfl, (by show 26 + 10 ≤ sizeLine; decide), c2, _, rfl, rfl, _, rfl, ?_⟩
              rw [lets_digits]
              refine ite2 (fun h7 => ?_) (fun h7 => ?_)
              · refine ⟨_, rfl, _, hd, hlen, hi, ?_, ?_⟩
                · intro b o e
                  have hb : b ≠ D := ne_of_none e (sm.free hD)
                  rw [upd_ne hb]
                  exact sm2 b o e
                · have h7 : (!decide (c2 ∈ sgns)) = true := h7
                  rw [upd_same, List.take_add_one, hc2, List.filter_append, List.map_append, Option.toList_some, List.filter_cons, if_pos h7]
                  rfl
              · refine ⟨hi, sm2, ?_⟩
                have h7 : ¬ (!decide (c2 ∈ sgns)) = true := h7
                rw [hd, List.take_add_one, hc2, List.filter_append, List.map_append, Option.toList_some, List.filter_cons, if_neg h7]
                simp
            · rintro H2 ⟨_, sm2, hd⟩
              rw [List.take_of_length_le (by simp)] at hd
              refine ⟨Nat.zero_le _, fun q2 hq2 => ?_⟩
              have hdq : D ≠ q2 := ne_of_none hd hq2
              have hd2 : upd H2 q2 (.lst []) D = some (.lst (((z.cps.toList.filter fun c => !decide (c ∈ sgns)).map fun c => (⟨#[c]⟩ : Str)).map V.str)) := by
                rw [upd_ne hdq, hd, List.map_map]
                rfl
              refine ⟨_, _, .lst (SqL.of hd2) (dp_strs _), .lst (SqL.of upd_same) .nil, shaped_strs ?_, rfl, ?_⟩
              · intro y hy
                obtain ⟨c3, hc3, rfl⟩ := List.mem_map.mp hy
                exact ha.one ((List.mem_filter.mp hc3).1)
              · have q3 := k _ (sm2.trans (same_new (o := .lst []) hq2))
                rw [h6, Bool.true_and] at q3
                have e : PyData.eqv (.list (((z.cps.toList.filter fun c => !decide (c ∈ sgns)).map fun c => (⟨#[c]⟩ : Str)).map PyData.str)) (.list []) = z.cps.toList.all fun c => decide (c ∈ sgns) := by
                  show PyData.eqvAll _ [] = _
                  generalize z.cps.toList = l
                  induction l with
                  | nil => rfl
                  | cons d l ih =>
                    by_cases hd : d ∈ sgns
                    · rw [List.filter_cons, if_neg (by simp [hd]), ih]
                      simp [hd]
                    · rw [List.filter_cons, if_pos (by simp [hd])]
                      show false = _
                      simp [hd]
                rw [e]
                exact q3
    | _ => exact iteT (iteT q)
theorem inV_two (z : Str) : inV (.str z) [.str "nothing", .str "yes"] = fixedB z := inV_fixed z
/-- what the law says is due: a new list of four truths -/
def spDue : Sp := fun vs H Q _ => ∃ (v : V) (n : Ty7), vs = [v] ∧ Th H v n ∧ ∀ p H', H p = none → Same H H' → H' p = some (.lst [.bl (isNameV v), .bl (isOperV v), .bl (isValV v), .bl (isMarkV v)]) → Q (.ref p) H'
theorem ok_law_due (T : Txt K mg A) : FnOk P w K mg base CX0 2 A.a_law_due A.d_law_due ["_law_thing"] spDue := by
  have nd := sc_law_due.nd
  refine T.f_law_due.ok sc_law_due (fun vs H Q E h => ?_) (fun cdv A' outer s H vs Q E hr h => ?_)
  · obtain ⟨v, n, rfl, _⟩ := h
    rfl
  · obtain ⟨v, n, rfl, th, k⟩ := h
    refine ⟨_, (pss_cons (ps_par (i := 1) (j := 2) rfl nd rfl rfl (by decide) rfl rfl (pa_cons (pe_call (ok_law_is_name T) (hr.mono (by decide)) (by rfl) T.m_law_is_name T.k_law_is_name T.v_law_is_name .nil pass0 (pa_cons (pv 0) pa_nil)) (pa_cons (pe_and (pe_callB call_isi (by rfl) T.b_isinstance (by decide +kernel) (pa_cons (pv 0) (pa_cons (pe_ty "int" T.b_int) pa_nil))) (pe_and (pe_not (pe_callB call_isi (by rfl) T.b_isinstance (by decide +kernel) (pa_cons (pv 0) (pa_cons (pe_ty "bool" T.b_bool) pa_nil)))) (pe_one (pe_cmpR op_gt (pv 0) (pe_un un_neg pe_int) (nomark _))))) pa_nil)) (by rfl))
      (pss_cons (ps_set (i := 3) nd rfl (Or.inl rfl) (pe_and (pe_callB call_isi (by rfl) T.b_isinstance (by decide +kernel) (pa_cons (pv 0) (pa_cons (pe_ty "str" T.b_str) pa_nil))) (pe_one (pe_cmpR op_in_seq (pv 0) (pe_lst (pa_cons pe_str (pa_cons pe_str pa_nil))) (by rfl)))))
      (pss_one (ps_ret (pe_lst (pa_cons (pv 1) (pa_cons (pe_or (pv 1) (pe_one (pv 3))) (pa_cons (pe_or (pe_cmpR op_isN (pv 0) pe_non (nomark _)) (pe_or (pe_and (pv 3) (pe_one (pe_cmpR op_eq (pv 0) pe_str (nomark _)))) (pe_one (pv 2)))) (pa_cons (pv 2) pa_nil))))))))), ?_⟩
    refine ⟨_, rfl, v, n, rfl, th, fun H1 s1 => ?_⟩
    have th1 := th.same s1
    refine ⟨_, rfl, v, _, _, _, _, rfl, .ty _, th1.ty, kit7 n .int (by decide), _, rfl, ?_⟩
    cases th with
    | str z hz ha =>
      refine ⟨_, _, rfl, _, rfl, _, _, _, _, _, rfl, .ty _, th1.ty, kit7 _ .str (by decide), _, rfl, ?_⟩
      refine ⟨_, rfl, (by show 2 ≤ sizeLine; decide), fun p hp => ⟨p, _, rfl, Or.inl (SqL.of upd_same), rfl, rfl, ?_⟩⟩
      have s2 := s1.trans (same_new (o := .lst [.str "nothing", .str "yes"]) hp)
      refine ⟨_, rfl, _, rfl, _, rfl, ?_⟩
      have fy : inV (.str z) [.str "nothing", .str "yes"] = fixedB z := inV_fixed z
      have fin : ∀ (o : Bool) (y : Bool), o = isOperV (.str z) → y = isValV (.str z) → ∀ p' : Addr, upd H1 p (.lst [.str "nothing", .str "yes"]) p' = none →
          Q (.ref p') (upd (upd H1 p (.lst [.str "nothing", .str "yes"])) p' (.lst [.bl (isNameV (.str z)), .bl o, .bl y, .bl false])) := by
        rintro o y rfl rfl p' hp'
        exact k p' _ (s2.free hp') (s2.trans (same_new hp')) upd_same
      have yesFix : z = "yes" → fixedB z = true := fun e => by subst e; decide +kernel
      refine ite2 (fun hn => ?_) (fun hn => ?_)
      · have hn : nameB z = true := hn
        refine ⟨_, rfl, rfl, _, rfl, _, rfl, _, rfl, ?_⟩
        refine ite2 (fun hf => ?_) (fun hf => ?_)
        · have hf : inV (.str z) [.str "nothing", .str "yes"] = true := hf
          rw [fy] at hf
          refine ⟨_, rfl, rfl, _, rfl, ?_⟩
          refine ite2 (fun hy => ?_) (fun hy => ?_)
          · have hy : z = "yes" := by
              have := of_decide_eq_true hy
              injection this
            refine ⟨_, rfl, (by show 4 ≤ sizeLine; decide), fun p' hp' => fin _ _ ?_ ?_ p' hp'⟩
            · show true = (fixedB z || nameB z)
              rw [hn, Bool.or_true]
            · exact (decide_eq_true hy).symm
          · have hy : ¬ z = "yes" := fun e => hy (by subst e; rfl)
            refine ⟨_, rfl, _, rfl, (by show 4 ≤ sizeLine; decide), fun p' hp' => fin _ _ ?_ ?_ p' hp'⟩
            · show true = (fixedB z || nameB z)
              rw [hn, Bool.or_true]
            · exact (decide_eq_false hy).symm
        · have hf : ¬ inV (.str z) [.str "nothing", .str "yes"] = true := hf
          rw [fy] at hf
          refine ⟨_, rfl, _, rfl, _, rfl, (by show 4 ≤ sizeLine; decide), fun p' hp' => fin _ _ ?_ ?_ p' hp'⟩
          · show true = (fixedB z || nameB z)
            rw [hn, Bool.or_true]
          · exact (decide_eq_false fun e => hf (yesFix e)).symm
      · have hn : ¬ nameB z = true := hn
        have hn := Bool.eq_false_iff.mpr hn
        refine ⟨_, rfl, _, rfl, rfl, _, rfl, _, rfl, _, rfl, ?_⟩
        refine ite2 (fun hf => ?_) (fun hf => ?_)
        · have hf0 : (if false = true then !inV (.str z) [.str "nothing", .str "yes"] else inV (.str z) [.str "nothing", .str "yes"]) = true := hf
          have hf : inV (.str z) [.str "nothing", .str "yes"] = true := hf
          rw [fy] at hf
          refine ⟨_, rfl, rfl, _, rfl, ?_⟩
          refine ite2 (fun hy => ?_) (fun hy => ?_)
          · have hy : z = "yes" := by
              have := of_decide_eq_true hy
              injection this
            refine ⟨_, rfl, (by show 4 ≤ sizeLine; decide), fun p' hp' => fin _ _ ?_ ?_ p' hp'⟩
            · show inV (.str z) [.str "nothing", .str "yes"] = (fixedB z || nameB z)
              rw [fy, hn, Bool.or_false]
            · exact (decide_eq_true hy).symm
          · have hy : ¬ z = "yes" := fun e => hy (by subst e; rfl)
            refine ⟨_, rfl, _, rfl, (by show 4 ≤ sizeLine; decide), fun p' hp' => fin _ _ ?_ ?_ p' hp'⟩
            · show inV (.str z) [.str "nothing", .str "yes"] = (fixedB z || nameB z)
              rw [fy, hn, Bool.or_false]
            · exact (decide_eq_false hy).symm
        · have hf : ¬ inV (.str z) [.str "nothing", .str "yes"] = true := hf
          rw [fy] at hf
          refine ⟨_, rfl, _, rfl, _, rfl, (by show 4 ≤ sizeLine; decide), fun p' hp' => fin _ _ ?_ ?_ p' hp'⟩
          · show inV (.str z) [.str "nothing", .str "yes"] = (fixedB z || nameB z)
            rw [fy, hn, Bool.or_false]
          · exact (decide_eq_false fun e => hf (yesFix e)).symm
    | int i =>
      refine ⟨_, rfl, _, _, _, _, _, rfl, .ty _, th1.ty, kit7 _ .bl (by decide), _, rfl, _, rfl, _, rfl, _, rfl, _, _, rfl, rfl, ?_⟩
      refine ⟨_, _, rfl, _, rfl, _, _, _, _, _, rfl, .ty _, th1.ty, kit7 _ .str (by decide), _, rfl, ?_⟩
      refine ⟨_, rfl, _, rfl, _, rfl, _, rfl, _, rfl, rfl, _, rfl, _, rfl, _, rfl, _, rfl, _, rfl, _, rfl, (by show 4 ≤ sizeLine; decide), fun p hp => ?_⟩
      refine k p _ (s1.free hp) (s1.trans (same_new hp)) ?_
      rw [upd_same]
      have e : decide (-1 < i) = decide (0 ≤ i) := by
        rw [Bool.eq_iff_iff, decide_eq_true_iff, decide_eq_true_iff]
        omega
      show some (HO.lst [V.bl false, .bl false, .bl (decide (-1 < i)), .bl (decide (-1 < i))]) = some (HO.lst [V.bl false, .bl false, .bl (decide (0 ≤ i)), .bl (decide (0 ≤ i))])
      rw [e]
    | bl b =>
      refine ⟨_, rfl, _, _, _, _, _, rfl, .ty _, th1.ty, kit7 _ .bl (by decide), _, rfl, _, rfl, ?_⟩
      refine ⟨_, _, rfl, _, rfl, _, _, _, _, _, rfl, .ty _, th1.ty, kit7 _ .str (by decide), _, rfl, ?_⟩
      refine ⟨_, rfl, _, rfl, _, rfl, _, rfl, _, rfl, rfl, _, rfl, _, rfl, _, rfl, _, rfl, _, rfl, _, rfl, (by show 4 ≤ sizeLine; decide), fun p hp => ?_⟩
      exact k p _ (s1.free hp) (s1.trans (same_new hp)) upd_same
    | non =>
      refine ⟨_, _, rfl, _, rfl, _, _, _, _, _, rfl, .ty _, th1.ty, kit7 _ .str (by decide), _, rfl, ?_⟩
      refine ⟨_, rfl, _, rfl, _, rfl, _, rfl, _, rfl, rfl, _, rfl, _, rfl, (by show 4 ≤ sizeLine; decide), fun p hp => ?_⟩
      exact k p _ (s1.free hp) (s1.trans (same_new hp)) upd_same
    | _ =>
      refine ⟨_, _, rfl, _, rfl, _, _, _, _, _, rfl, .ty _, th1.ty, kit7 _ .str (by decide), _, rfl, ?_⟩
      refine ⟨_, rfl, _, rfl, _, rfl, _, rfl, _, rfl, rfl, _, rfl, _, rfl, _, rfl, _, rfl, _, rfl, _, rfl, (by show 4 ≤ sizeLine; decide), fun p hp => ?_⟩
      exact k p _ (s1.free hp) (s1.trans (same_new hp)) upd_same
end
end K02
set_option Elab.async false
set_option linter.all false
set_option maxRecDepth 100000
set_option maxHeartbeats 4000000
namespace K02
open PySem PySem.Spec PyProof.Rows L2 Mo
abbrev cSigns : Str := "abcdefghijklmnopqrstuvwxyz0123456789"
abbrev cOdd : Str := "ABCXYZ !\"#$&'()*+,-./:;<=>?\x40[\\]^_{|}~\n"
theorem asc_signs : Asc cSigns := Asc.by (by decide +kernel)
theorem asc_odd : Asc cOdd := Asc.by (by decide +kernel)
theorem len_signs : cSigns.cps.toList.length = 36 := by decide +kernel
theorem len_odd : cOdd.cps.toList.length = 38 := by decide +kernel
theorem len_odd2 : cOdd.length = 38 := by decide +kernel
theorem len_signs2 : cSigns.length = 36 := by decide +kernel
abbrev nears : List Str := ["nothing", "yes", "nothin", "othing", "nothings", "ye", "es", "yes0", "Yes", "yes ", "none", "None"]
theorem near_ok : ∀ z ∈ nears, z.length ≤ 12 ∧ Asc z := by
  intro z hz
  have h : nears.all (fun z => decide (z.length ≤ 12) && z.cps.toList.all (fun c => decide (c < 128))) = true := by decide +kernel
  have h2 := List.all_eq_true.mp h z hz
  rw [Bool.and_eq_true] at h2
  exact ⟨of_decide_eq_true h2.1, Asc.by h2.2⟩
def spString : Sp := fun vs H Q _ => ∃ a : Addr, vs = [.ref a] ∧ Src H a ∧ ∀ (z : Str) (H' : Hp), z.length ≤ 12 → Asc z → Src H' a → KeepBut a H H' → Q (.str z) H'
section
variable {P : Program} {w : World} {K : PySem.W.Frag} {mg : Str → Option Value} {base : Heap} {A : Ads}
theorem ok_law_string (T : Txt K mg A) : FnOk P w K mg base CX0 2 A.a_law_string A.d_law_string ["_law_source_here"] spString := by
  have nd := sc_law_string.nd
  refine T.f_law_string.ok sc_law_string (fun vs H Q E h => ?_) (fun cdv A' outer s H vs Q E hr h => ?_)
  · obtain ⟨v, rfl, _⟩ := h
    rfl
  · obtain ⟨a, rfl, src, k⟩ := h
    -- behind the signs: the way
    have tail2 : ∃ t, PSs (cxOf CX0 P w K mg base nm_law_string "_law_string" (defScope st_law_string) A.a_law_string cdv A' outer s H E).nox ((defBody st_law_string).drop 4) t ∧
        ∀ (z : Str) (v : Option V) (H2 : Hp), z.length ≤ 10 → Asc z → Src H2 a → KeepBut a H H2 →
          t { nx := fun _ H' => Q .non H', rt := Q } [some (.ref a), some (.str cSigns), some (.str cOdd), some (.str z), v, none, none, none] H2 := by
      refine ⟨_, (pss_cons (ps_par (i := 5) (j := 6) rfl nd rfl rfl (by decide) rfl rfl (pa_cons (pe_call (ok_law_take T) (hr.mono (by decide)) (by rfl) T.m_law_take T.k_law_take T.v_law_take .nil pass0 (pa_cons (pv 0) (pa_cons pe_int pa_nil))) (pa_cons (pe_call (ok_law_take T) (hr.mono (by decide)) (by rfl) T.m_law_take T.k_law_take T.v_law_take .nil pass0 (pa_cons (pv 0) (pa_cons (pe_op op_add (pe_callB call_len_str (by rfl) T.b_len (by decide +kernel) (pa_cons (pv 3) pa_nil)) pe_int) pa_nil))) pa_nil)) (by rfl))
      (pss_cons (ps_if (pt_cmpR op_eq (pv 5) pe_int (nomark _)) (pss_one (ps_ret (pe_op op_add_str (pe_op op_add_str (pe_slice sl_str (pv 3) po_none (po_some (pv 6))) (pe_ix ix_str (pv 2) (pe_call (ok_law_take T) (hr.mono (by decide)) (by rfl) T.m_law_take T.k_law_take T.v_law_take .nil pass0 (pa_cons (pv 0) (pa_cons (pe_callB call_len_str (by rfl) T.b_len (by decide +kernel) (pa_cons (pv 2) pa_nil)) pa_nil))) (fun _ _ => rfl))) (pe_slice sl_str (pv 3) (po_some (pv 6)) po_none)))) pss_nil)
      (pss_cons (ps_if (pt_cmpR op_eq (pv 5) pe_int (nomark _)) (pss_cons (ps_set (i := 7) nd rfl (Or.inl rfl) (pe_lst (pa_cons pe_str (pa_cons pe_str (pa_cons pe_str (pa_cons pe_str (pa_cons pe_str (pa_cons pe_str (pa_cons pe_str (pa_cons pe_str (pa_cons pe_str (pa_cons pe_str (pa_cons pe_str (pa_cons pe_str pa_nil))))))))))))))
      (pss_one (ps_ret (pe_ix ix_list (pv 7) (pe_call (ok_law_take T) (hr.mono (by decide)) (by rfl) T.m_law_take T.k_law_take T.v_law_take .nil pass0 (pa_cons (pv 0) (pa_cons pe_int pa_nil))) (fun _ _ => rfl))))) pss_nil)
      (pss_one (ps_ret (pe_ifExp (pt_cmpR op_eq (pv 5) pe_int (nomark _)) (pe_slice sl_str (pv 3) po_none (po_some (pv 6))) (pv 3))))))), ?_⟩
      intro z v H2 hz hza src2 kb2
      have hz1 : z.length ≤ sizeLine := len5000 (by omega)
      refine ⟨_, rfl, a, _, rfl, src2, by decide, by decide, fun wy H3 w0 w1 src3 kb3 => ?_⟩
      refine ⟨_, rfl, _, rfl, z, rfl, hz1, _, _, rfl, rfl, a, _, rfl, src3, by omega, by omega, fun at_ H4 a0 a1 src4 kb4 => ?_⟩
      have kb := (kb2.trans kb3).trans kb4
      refine ⟨_, _, rfl, _, rfl, rfl, _, rfl, ?_⟩
      refine ite2 (fun _ => ?_) (fun _ => ?_)
      · refine ⟨_, rfl, _, rfl, _, rfl, z, rfl, hz1, _, rfl, _, rfl, _, rfl, cOdd, rfl, (by rw [len_odd2]; decide), a, _, rfl, src4, (by rw [len_odd2]; decide), (by rw [len_odd2]; decide), fun d H5 e0 e1 src5 kb5 => ?_⟩
        rw [len_odd2] at e1
        obtain ⟨c, hc, hm⟩ := at_in (l := cOdd.cps.toList) e0 (by rw [len_odd]; exact e1)
        have l1 := cutS_length z none (some at_)
        have l2 := cutS_length z (some at_) none
        refine ⟨cOdd, d, c, rfl, rfl, (by rw [len_odd2]; decide), hc, _, _, rfl, rfl, ?_, ?_⟩
        · rw [one_length]
          exact len5000 (by omega)
        · refine ⟨_, rfl, _, rfl, _, rfl, z, rfl, hz1, _, _, rfl, rfl, ?_, ?_⟩
          · rw [app_length, one_length]
            exact len5000 (by omega)
          · refine k _ _ ?_ (((hza.cut _ _).app (asc_odd.one hm)).app (hza.cut _ _)) src5 (kb.trans kb5)
            rw [app_length, app_length, one_length]
            have key : (cutS z none (some at_)).length + (cutS z (some at_) none).length ≤ z.length := cut_two z a0
            omega
      · refine ⟨_, rfl, rfl, _, rfl, ?_⟩
        refine ite2 (fun _ => ?_) (fun _ => ?_)
        · refine ⟨(by show 12 ≤ sizeLine; decide), fun p hp => ?_⟩
          have hpa : p ≠ a := by
            obtain ⟨_, _, _, ha, _⟩ := src4
            exact (ne_of_none ha hp).symm
          refine ⟨_, rfl, _, rfl, a, _, rfl, src4.same (same_new hp), by decide, by decide, fun d H5 e0 e1 src5 kb5 => ?_⟩
          obtain ⟨y, hy, hm⟩ := at_in (l := nears.map V.str) e0 e1
          obtain ⟨x, hx, rfl⟩ := List.mem_map.mp hm
          refine ⟨p, nears.map V.str, d, .str x, rfl, rfl, SqL.of (kb5 _ _ hpa upd_same), hy, ?_⟩
          exact k x H5 (near_ok x hx).1 (near_ok x hx).2 src5 ((kb.trans (KeepBut.of_same (same_new hp))).trans kb5)
        · refine ⟨_, rfl, rfl, _, rfl, ?_⟩
          refine ite2 (fun _ => ?_) (fun _ => ?_)
          · refine ⟨_, rfl, _, rfl, _, rfl, z, rfl, hz1, ?_⟩
            refine k _ _ ?_ (hza.cut _ _) src4 kb
            have := cutS_length z none (some at_)
            omega
          · exact ⟨_, rfl, k z _ (by omega) hza src4 kb⟩
    obtain ⟨t2, D2, rest2⟩ := tail2
    -- behind the first sign: the loop
    have tail1 : ∃ t, PSs (cxOf CX0 P w K mg base nm_law_string "_law_string" (defScope st_law_string) A.a_law_string cdv A' outer s H E).nox ((defBody st_law_string).drop 3) t ∧
        ∀ (c : Nat) (H2 : Hp), c ∈ cSigns.cps.toList → Src H2 a → KeepBut a H H2 →
          t { nx := fun _ H' => Q .non H', rt := Q } [some (.ref a), some (.str cSigns), some (.str cOdd), some (.str ⟨#[c]⟩), none, none, none, none] H2 := by
      refine ⟨_, (pss_cons (ps_for PassesOwn.never rfl (pi_range1 (by rfl) T.b_range (pa_cons (pe_call (ok_law_take T) (hr.mono (by decide)) (by rfl) T.m_law_take T.k_law_take T.v_law_take .nil pass0 (pa_cons (pv 0) (pa_cons pe_int pa_nil))) pa_nil)) (pg_name (i := 4) nd rfl (Or.inl rfl)) (pss_one (ps_set (i := 3) nd rfl (Or.inl rfl) (pe_op op_add_str (pv 3) (pe_ix ix_str (pv 1) (pe_call (ok_law_take T) (hr.mono (by decide)) (by rfl) T.m_law_take T.k_law_take T.v_law_take .nil pass0 (pa_cons (pv 0) (pa_cons pe_int pa_nil))) (fun _ _ => rfl)))))) D2), ?_⟩
      intro c H2 hc src2 kb2
      refine ⟨_, rfl, a, _, rfl, src2, by decide, by decide, fun n H3 n0 n1 src3 kb3 => ?_⟩
      refine ⟨n, rfl, by omega, by omega, for_range (lo := 0) (n := n.toNat) (fun i σ H4 => ∃ (z : Str) (v : Option V), σ = [some (.ref a), some (.str cSigns), some (.str cOdd), some (.str z), v, none, none, none] ∧ z.length ≤ 1 + i ∧ Asc z ∧ Src H4 a ∧ KeepBut a H H4)
        ⟨⟨#[c]⟩, none, rfl, Nat.le_refl _, asc_signs.one hc, src3, kb2.trans kb3⟩ ?_ ?_⟩
      · rintro i σ H4 hi ⟨z, v, rfl, hz, hza, src4, kb4⟩
        refine ⟨_, rfl, _, rfl, _, rfl, a, _, rfl, src4, by decide, by decide, fun d H5 e0 e1 src5 kb5 => ?_⟩
        obtain ⟨c2, hc2, hm2⟩ := at_in (l := cSigns.cps.toList) e0 (by rw [len_signs]; omega)
        refine ⟨cSigns, d, c2, rfl, rfl, (by rw [len_signs2]; decide), hc2, _, _, rfl, rfl, ?_, ?_⟩
        · rw [one_length]
          exact len5000 (by omega)
        · refine ⟨_, _, rfl, ?_, hza.app (asc_signs.one hm2), src5, kb4.trans kb5⟩
          rw [app_length, one_length]
          omega
      · rintro σ H4 ⟨z, v, rfl, hz, hza, src4, kb4⟩
        exact rest2 z v H4 (by omega) hza src4 kb4
    obtain ⟨t1, D1, rest1⟩ := tail1
    refine ⟨_, (pss_cons (ps_set (i := 1) nd rfl (Or.inl rfl) pe_str) (pss_cons (ps_set (i := 2) nd rfl (Or.inl rfl) pe_str)
      (pss_cons (ps_set (i := 3) nd rfl (Or.inl rfl) (pe_ifExp (pt_cmpR op_gt (pe_call (ok_law_take T) (hr.mono (by decide)) (by rfl) T.m_law_take T.k_law_take T.v_law_take .nil pass0 (pa_cons (pv 0) (pa_cons pe_int pa_nil))) pe_int (nomark _)) (pe_ix ix_str (pv 1) (pe_call (ok_law_take T) (hr.mono (by decide)) (by rfl) T.m_law_take T.k_law_take T.v_law_take .nil pass0 (pa_cons (pv 0) (pa_cons pe_int pa_nil))) (fun _ _ => rfl)) (pe_ix ix_str (pv 1) (pe_call (ok_law_take T) (hr.mono (by decide)) (by rfl) T.m_law_take T.k_law_take T.v_law_take .nil pass0 (pa_cons (pv 0) (pa_cons pe_int pa_nil))) (fun _ _ => rfl)))) D1))), ?_⟩
    refine ⟨_, rfl, a, _, rfl, src, by decide, by decide, fun d H1 d0 d1 src1 kb1 => ?_⟩
    refine ⟨_, _, rfl, rfl, _, rfl, ?_⟩
    refine ite2 (fun _ => ?_) (fun _ => ?_)
    all_goals
      refine ⟨_, rfl, _, rfl, a, _, rfl, src1, by decide, by decide, fun d2 H2 e0 e1 src2 kb2 => ?_⟩
      obtain ⟨c, hc, hm⟩ := at_in (l := cSigns.cps.toList) e0 (by rw [len_signs]; omega)
      exact ⟨cSigns, d2, c, rfl, rfl, (by rw [len_signs2]; decide), hc, rest1 c H2 hm src2 (kb1.trans kb2)⟩
end
end K02
set_option Elab.async false
set_option linter.all false
set_option maxRecDepth 100000
set_option maxHeartbeats 4000000
namespace K02
open PySem PySem.Spec PyProof.Rows L2 Mo
/-- the things are at most 22 of the seven kinds, in a new list -/
def spThings : Sp := fun vs H Q _ => ∃ a : Addr, vs = [.ref a] ∧ Src H a ∧ ∀ (p : Addr) (xs : List V) (H' : Hp), xs.length ≤ 100 → AllTh H' xs → H' p = some (.lst xs) → p ≠ a → KeepBut a H H' → Q (.ref p) H'
section
variable {P : Program} {w : World} {K : PySem.W.Frag} {mg : Str → Option Value} {base : Heap} {A : Ads}
theorem ok_law_things (T : Txt K mg A) : FnOk P w K mg base CX0 3 A.a_law_things A.d_law_things ["_law_source_here"] spThings := by
  have nd := sc_law_things.nd
  refine T.f_law_things.ok sc_law_things (fun vs H Q E h => ?_) (fun cdv A' outer s H vs Q E hr h => ?_)
  · obtain ⟨v, rfl, _⟩ := h
    rfl
  · obtain ⟨a, rfl, src, k⟩ := h
    refine ⟨_, (pss_cons (ps_par (i := 1) (j := 2) rfl nd rfl rfl (by decide) rfl rfl (pa_cons (pe_call (ok_law_string T) (hr.mono (by decide)) (by rfl) T.m_law_string T.k_law_string T.v_law_string .nil pass0 (pa_cons (pv 0) pa_nil)) (pa_cons (pe_call (ok_law_take T) (hr.mono (by decide)) (by rfl) T.m_law_take T.k_law_take T.v_law_take .nil pass0 (pa_cons (pv 0) (pa_cons pe_int pa_nil))) pa_nil)) (by rfl))
      (pss_cons (ps_set (i := 3) nd rfl (Or.inl rfl) (pe_ix ix_list (pe_lst (pa_cons pe_int (pa_cons pe_int (pa_cons (pv 2) (pa_cons (pe_op op_add (pe_op op_pow pe_int pe_int) (pv 2)) (pa_cons (pe_op op_sub (pe_op op_sub (pe_op op_pow pe_int pe_int) pe_int) (pv 2)) pa_nil)))))) (pe_call (ok_law_take T) (hr.mono (by decide)) (by rfl) T.m_law_take T.k_law_take T.v_law_take .nil pass0 (pa_cons (pv 0) (pa_cons pe_int pa_nil))) (fun _ _ => rfl)))
      (pss_cons (ps_set (i := 4) nd rfl (Or.inl rfl) (pe_lst (pa_cons (pv 1) (pa_cons (pe_call (ok_law_string T) (hr.mono (by decide)) (by rfl) T.m_law_string T.k_law_string T.v_law_string .nil pass0 (pa_cons (pv 0) pa_nil)) (pa_cons (pv 3) (pa_cons (pe_un un_neg (pv 3)) (pa_cons (pe_op op_sub (pe_un un_neg pe_int) (pv 2)) (pa_cons (pe_tup (pa_cons (pv 1) pa_nil)) (pa_cons (pe_lst (pa_cons (pv 1) pa_nil)) (pa_cons (pe_disp (pps_cons (pv 1) (pv 3) pps_nil) (by rfl) (by rfl) (fun z => by cases z) (by decide)) pa_nil))))))))))
      (pss_one (ps_ret (pe_op op_cat (pv 4) (pe_lst (pa_cons (pe_tup pa_nil) (pa_cons (pe_lst pa_nil) (pa_cons pe_dnewK (pa_cons pe_str (pa_cons pe_non (pa_cons pe_bl (pa_cons pe_bl (pa_cons pe_int (pa_cons (pe_tup (pa_cons (pv 3) pa_nil)) (pa_cons (pe_lst (pa_cons (pv 3) pa_nil)) (pa_cons (pe_callTy call_str_int (by rfl) T.b_str (by decide +kernel) (pa_cons (pv 3) pa_nil)) (pa_cons (pe_tup (pa_cons pe_non pa_nil)) (pa_cons pe_str (pa_cons pe_str pa_nil))))))))))))))))))))), ?_⟩
    refine ⟨_, rfl, a, rfl, src, fun z H1 hz hza src1 kb1 => ?_⟩
    refine ⟨_, rfl, a, _, rfl, src1, by decide, by decide, fun f H2 f0 f1 src2 kb2 => ⟨_, _, rfl, ?_⟩⟩
    refine ⟨_, rfl, _, _, rfl, rfl, ⟨by decide, by decide, by decide⟩, _, rfl, _, _, rfl, rfl, _, _, rfl, rfl, ⟨by decide, by decide, by decide⟩, _, _, rfl, rfl, _, rfl, _, _, rfl, rfl, (by show 5 ≤ sizeLine; decide), fun p hp => ?_⟩
    have hpa : p ≠ a := by
      obtain ⟨_, _, _, ha, _⟩ := src2
      exact (ne_of_none ha hp).symm
    refine ⟨_, rfl, a, _, rfl, src2.same (same_new hp), by decide, by decide, fun d H3 e0 e1 src3 kb3 => ?_⟩
    have hm : ∃ m : Int, atI [V.int 0, .int 1, .int f, .int (10 ^ 38 + f), .int (10 ^ 39 - 1 - f)] d = some (.int m) ∧ 0 ≤ m ∧ m < 10 ^ 39 := by
      have hd : d = 0 ∨ d = 1 ∨ d = 2 ∨ d = 3 ∨ d = 4 := by omega
      rcases hd with rfl | rfl | rfl | rfl | rfl
      · exact ⟨0, rfl, by decide, by decide⟩
      · exact ⟨1, rfl, by decide, by decide⟩
      · exact ⟨f, rfl, f0, by omega⟩
      · exact ⟨10 ^ 38 + f, rfl, by omega, by omega⟩
      · exact ⟨10 ^ 39 - 1 - f, rfl, by omega, by omega⟩
    obtain ⟨m, hat, m0, m1⟩ := hm
    refine ⟨p, _, d, .int m, rfl, rfl, SqL.of (kb3 _ _ hpa upd_same), hat, ?_⟩
    refine ⟨_, rfl, _, rfl, a, rfl, src3, fun z2 H4 hz2 hza2 src4 kb4 => ?_⟩
    refine ⟨_, rfl, _, rfl, _, rfl, _, rfl, _, rfl, _, _, rfl, rfl, _, rfl, (by show 1 ≤ sizeLine; decide), fun q1 hq1 => ?_⟩
    refine ⟨_, rfl, (by show 1 ≤ sizeLine; decide), fun q2 hq2 => ?_⟩
    intro q3 hq3
    refine ⟨_, rfl, _, rfl, upd_same, [(Sum.inr z, .int m)], rfl, (by show 1 ≤ 15; decide), (by show 8 ≤ sizeLine; decide), fun q4 hq4 => ?_⟩
    have sA : Same H4 _ := same_new (o := .tup [.str z]) hq1
    have sB : Same _ _ := same_new (o := .lst [.str z]) hq2
    have sC : Same (upd (upd H4 q1 (.tup [.str z])) q2 (.lst [.str z])) (upd (upd (upd (upd H4 q1 (.tup [.str z])) q2 (.lst [.str z])) q3 (.dK [])) q3 (.dK (mergeK [] [(Sum.inr z, .int m)]))) := by
      rw [upd_upd]
      exact same_new hq3
    have src5 := ((src4.same sA).same sB).same sC
    have t1 : Th _ (.ref q1) .tup := .tup (H := upd H4 q1 (.tup [.str z])) upd_same
    have t2 : Th _ (.ref q2) .lst := .lst (H := upd (upd H4 q1 (.tup [.str z])) q2 (.lst [.str z])) upd_same
    have t3 : Th (upd (upd (upd (upd H4 q1 (.tup [.str z])) q2 (.lst [.str z])) q3 (.dK [])) q3 (.dK (mergeK [] [(Sum.inr z, .int m)]))) (.ref q3) .dic := .dK upd_same
    have t1' := (t1.same sB).same sC
    have t2' := t2.same sC
    have hq4 : upd (upd (upd (upd H4 q1 (.tup [.str z])) q2 (.lst [.str z])) q3 (.dK [])) q3 (.dK (mergeK [] [(Sum.inr z, .int m)])) q4 = none := hq4
    have s45 := sA.trans (sB.trans sC)
    revert hq4 t3 t2' t1' src5 s45
    generalize upd (upd (upd (upd H4 q1 (.tup [.str z])) q2 (.lst [.str z])) q3 (.dK [])) q3 (.dK (mergeK [] [(Sum.inr z, .int m)])) = H5
    intro src5 t3 t1' t2' hq4 s45
    have all1 : AllTh H5 [.str z, .str z2, .int m, .int (-m), .int (-1 - f), .ref q1, .ref q2, .ref q3] :=
      .cons (.str z (by omega) hza) (.cons (.str z2 (by omega) hza2) (.cons (.int _) (.cons (.int _) (.cons (.int _) (.cons t1' (.cons t2' (.cons t3 (.nil _))))))))
    have s6 : Same H5 _ := same_new (o := .lst [.str z, .str z2, .int m, .int (-m), .int (-1 - f), .ref q1, .ref q2, .ref q3]) hq4
    have at4 : (upd H5 q4 (.lst [.str z, .str z2, .int m, .int (-m), .int (-1 - f), .ref q1, .ref q2, .ref q3])) q4 = _ := upd_same
    have all2 := all1.same s6
    have src6 := src5.same s6
    refine ⟨_, rfl, Nat.zero_le _, fun r1 h1 => ⟨Nat.zero_le _, fun r2 h2 => fun r3 h3 => ?_⟩⟩
    have u1 := same_new (o := .tup []) h1
    have u2 := same_new (o := .lst []) h2
    have u3 := same_new (o := .dK []) h3
    refine ⟨_, rfl, (by show 1 ≤ sizeLine; decide), fun r4 h4 => ⟨_, rfl, (by show 1 ≤ sizeLine; decide), fun r5 h5 => ?_⟩⟩
    have u4 := same_new (o := .tup [.int m]) h4
    have u5 := same_new (o := .lst [.int m]) h5
    have mb : m.natAbs < 2 ^ 130 := by omega
    refine ⟨_, rfl, m, rfl, log_le (by decide) mb (by decide), (by show 1 ≤ sizeLine; decide), fun r6 h6 => ⟨(by show 14 ≤ sizeLine; decide), fun r7 h7 => ?_⟩⟩
    have u6 := same_new (o := .tup [.non]) h6
    have tm : Asc (Str.ofString (toString m)) := Asc.num m
    have lm : (Str.ofString (toString m)).length ≤ 5000 := by
      have e := int_text_length_le10 (a := m) (k := 39) (by decide) (by omega)
      rw [PySem.ofString_length]
      omega
    have all3 : AllTh _ [.ref r1, .ref r2, .ref r3, .str "", .non, .bl true, .bl false, .int 0, .ref r4, .ref r5, .str (Str.ofString (toString m)), .ref r6, .str "yes", .str "nothing"] :=
      .cons ((((((Th.tup upd_same).same u2).same u3).same u4).same u5).same u6) (.cons (((((Th.lst upd_same).same u3).same u4).same u5).same u6) (.cons ((((Th.dK upd_same).same u4).same u5).same u6)
        (.cons (.str _ (by decide) (Asc.by rfl)) (.cons .non (.cons (.bl _) (.cons (.bl _) (.cons (.int _) (.cons (((Th.tup upd_same).same u5).same u6) (.cons ((Th.lst upd_same).same u6) (.cons (.str _ lm tm) (.cons (Th.tup upd_same)
          (.cons (.str _ (by decide) (Asc.by (by decide +kernel))) (.cons (.str _ (by decide) (Asc.by (by decide +kernel))) (.nil _))))))))))))))
    have s7 := (((((u1.trans u2).trans u3).trans u4).trans u5).trans u6)
    have u7 := same_new (o := .lst [.ref r1, .ref r2, .ref r3, .str "", .non, .bl true, .bl false, .int 0, .ref r4, .ref r5, .str (Str.ofString (toString m)), .ref r6, .str "yes", .str "nothing"]) h7
    refine ⟨q4, r7, _, _, rfl, rfl, (s7.trans u7) _ _ at4, upd_same, (by show 8 + 14 ≤ sizeLine; decide), fun r8 h8 => ?_⟩
    have u8 := same_new (o := .lst ([.str z, .str z2, .int m, .int (-m), .int (-1 - f), .ref q1, .ref q2, .ref q3] ++ [.ref r1, .ref r2, .ref r3, .str "", .non, .bl true, .bl false, .int 0, .ref r4, .ref r5, .str (Str.ofString (toString m)), .ref r6, .str "yes", .str "nothing"])) h8
    refine k r8 _ _ (by show 22 ≤ 100; decide) (((all2.same (s7.trans u7)).app (all3.same u7)).same u8) upd_same ?_ ?_
    · obtain ⟨_, _, _, ha, _⟩ := src6.same (s7.trans u7)
      exact (ne_of_none ha h8).symm
    · exact ((((kb1.trans kb2).trans (KeepBut.of_same (same_new hp))).trans kb3).trans kb4).trans (KeepBut.of_same ((s45.trans (s6.trans (s7.trans u7))).trans u8))
/-- four truths told by repr -/
abbrev four (v : V) : PyData := .list [.bool (isNameV v), .bool (isOperV v), .bool (isValV v), .bool (isMarkV v)]
theorem four_len (v : V) : (four v).shown.length ≤ sizeLine := by
  show (PyData.list [.bool (isNameV v), .bool (isOperV v), .bool (isValV v), .bool (isMarkV v)]).shown.length ≤ sizeLine
  cases isNameV v <;> cases isOperV v <;> cases isValV v <;> cases isMarkV v <;> decide +kernel
theorem four_dp {H : Hp} {p : Addr} {v : V} (h : H p = some (.lst [.bl (isNameV v), .bl (isOperV v), .bl (isValV v), .bl (isMarkV v)])) : Dp K H (.ref p) (four v) :=
  .lst (SqL.of h) (.cons (.bl _) (.cons (.bl _) (.cons (.bl _) (.cons (.bl _) .nil))))
def spRight : Sp := fun vs H Q _ => ∃ a : Addr, vs = [.ref a] ∧ Src H a ∧ ∀ H' : Hp, KeepBut a H H' → Q (.bl true) H'
theorem ok_law_right (T : Txt K mg A) : FnG P w K mg base CX0 4 A.a_law_right A.d_law_right ["_law_source_here"] spRight := by
  have nd := sc_law_right.nd
  refine Fun_okG T.f_law_right sc_law_right (fun vs H Q E h => ?_) (fun cdv A' outer s H vs Q E hr hG h => ?_)
  · obtain ⟨v, rfl, _⟩ := h
    rfl
  · obtain ⟨a, rfl, src, k⟩ := h
    refine ⟨_, (pss_cons (ps_for PassesOwn.never rfl (pi_list (pe_call (ok_law_things T) (hr.mono (by decide)) (by rfl) T.m_law_things T.k_law_things T.v_law_things .nil pass0 (pa_cons (pv 0) pa_nil))) (pg_name (i := 1) nd rfl (Or.inl rfl)) (pss_cons (ps_set (i := 2) nd rfl (Or.inl rfl) (pe_callB (call_repr hr hG) (by rfl) T.b_repr (by decide +kernel) (pa_cons (pe_call (ok_law_due T) (hr.mono (by decide)) (by rfl) T.m_law_due T.k_law_due T.v_law_due .nil pass0 (pa_cons (pv 1) pa_nil)) pa_nil)))
      (pss_cons (ps_if (pt_cmpR op_ne (pe_callB (call_repr hr hG) (by rfl) T.b_repr (by decide +kernel) (pa_cons (pe_lst (pa_cons (pe_call (ok_is_name T) (hr.mono (by decide)) (by rfl) T.m_is_name T.k_is_name T.v_is_name .nil pass0 (pa_cons (pv 1) pa_nil)) (pa_cons (pe_call (ok_is_operand T) (hr.mono (by decide)) (by rfl) T.m_is_operand T.k_is_operand T.v_is_operand .nil pass0 (pa_cons (pv 1) pa_nil)) (pa_cons (pe_call (ok_is_value T) (hr.mono (by decide)) (by rfl) T.m_is_value T.k_is_value T.v_is_value .nil pass0 (pa_cons (pv 1) pa_nil)) (pa_cons (pe_call (ok_is_mark T) (hr.mono (by decide)) (by rfl) T.m_is_mark T.k_is_mark T.v_is_mark .nil pass0 (pa_cons (pv 1) pa_nil)) pa_nil))))) pa_nil)) (pv 2) (nomark _)) (pss_one (ps_ret pe_bl)) pss_nil)
      (pss_cons (ps_set (i := 3) nd rfl (Or.inl rfl) (pe_lst (pa_cons (pe_callK0 (ok_is_name T) (hr.mono (by decide)) (by rfl) T.m_is_name T.k_is_name T.kb_is_name pass0 (pk_cons (pv 1) pk_nil)) (pa_cons (pe_callK0 (ok_is_operand T) (hr.mono (by decide)) (by rfl) T.m_is_operand T.k_is_operand T.kb_is_operand pass0 (pk_cons (pv 1) pk_nil)) (pa_cons (pe_callK0 (ok_is_value T) (hr.mono (by decide)) (by rfl) T.m_is_value T.k_is_value T.kb_is_value pass0 (pk_cons (pv 1) pk_nil)) (pa_cons (pe_callK0 (ok_is_mark T) (hr.mono (by decide)) (by rfl) T.m_is_mark T.k_is_mark T.kb_is_mark pass0 (pk_cons (pv 1) pk_nil)) pa_nil))))))
      (pss_one (ps_if (pt_cmpR op_ne (pe_callB (call_repr hr hG) (by rfl) T.b_repr (by decide +kernel) (pa_cons (pv 3) pa_nil)) (pv 2) (nomark _)) (pss_one (ps_ret pe_bl)) pss_nil))))))
      (pss_one (ps_ret pe_bl))), ?_⟩
    refine ⟨_, rfl, a, rfl, src, fun p xs H1 hl al hp hpa kb => ?_⟩
    refine ⟨p, rfl, ⟨_, SqL.of hp⟩, for_list (K := K) (a := p) (xs := xs) (fun i σ H2 => Same H1 H2 ∧ ∃ v1 v2 v3, σ = [some (.ref a), v1, v2, v3]) ⟨Same.refl _, _, _, _, rfl⟩ (fun i σ H2 _ h => h.1.seq (SqL.of hp)) ?_ ?_⟩
    · rintro i v σ H2 hi ⟨s2, v1, v2, v3, rfl⟩
      obtain ⟨n, th⟩ := al v (List.mem_of_getElem? hi)
      have th := th.same s2
      refine ⟨_, rfl, v, n, rfl, th, fun q1 H3 _ s3 hq1 => ?_⟩
      refine ⟨q1, four v, rfl, four_dp hq1, rfl, rfl, (by show 1 ≤ 60; decide), four_len v, ?_⟩
      refine ⟨_, rfl, v, n, rfl, th.same s3, fun H4 s4 => ⟨_, rfl, v, n, rfl, (th.same s3).same s4, fun H5 s5 => ⟨_, rfl, v, n, rfl, ((th.same s3).same s4).same s5, fun H6 s6 =>
        ⟨_, rfl, v, n, rfl, (((th.same s3).same s4).same s5).same s6, fun H7 s7 => ⟨(by show 4 ≤ sizeLine; decide), fun q2 hq2 => ?_⟩⟩⟩⟩⟩
      have sx := ((s3.trans s4).trans s5).trans (s6.trans s7)
      refine ⟨q2, four v, rfl, four_dp upd_same, rfl, rfl, (by show 1 ≤ 60; decide), four_len v, ?_⟩
      refine ⟨_, rfl, rfl, _, rfl, ?_⟩
      refine iteNS rfl ?_
      have th8 := (th.same sx).same (same_new (o := .lst [.bl (isNameV v), .bl (isOperV v), .bl (isValV v), .bl (isMarkV v)]) hq2)
      have s8 := (s2.trans sx).trans (same_new (o := .lst [.bl (isNameV v), .bl (isOperV v), .bl (isValV v), .bl (isMarkV v)]) hq2)
      refine ⟨_, rfl, v, n, rfl, th8, fun H9 s9 => ⟨_, rfl, v, n, rfl, th8.same s9, fun H10 s10 => ⟨_, rfl, v, n, rfl, (th8.same s9).same s10, fun H11 s11 =>
        ⟨_, rfl, v, n, rfl, ((th8.same s9).same s10).same s11, fun H12 s12 => ⟨(by show 4 ≤ sizeLine; decide), fun q3 hq3 => ?_⟩⟩⟩⟩⟩
      refine ⟨_, rfl, q3, four v, rfl, four_dp upd_same, rfl, rfl, (by show 1 ≤ 60; decide), four_len v, ?_⟩
      refine ⟨_, rfl, rfl, _, rfl, ?_⟩
      refine iteNS rfl ?_
      exact ⟨(s8.trans ((s9.trans s10).trans (s11.trans s12))).trans (same_new hq3), _, _, _, rfl⟩
    · rintro σ H2 ⟨s2, v1, v2, v3, rfl⟩
      exact k H2 (kb.trans (KeepBut.of_same s2))
def spLaw (K : PySem.W.Frag) : Sp := fun vs H Q _ => ∃ (a : Addr) (ns : List Int), vs = [.ref a] ∧ SqL K H a (ns.map V.int) ∧ ns.length ≤ 63 ∧ (∀ z ∈ ns, Builtin.Int.intBits z ≤ 1048576) ∧ ∀ H', Q (.bl true) H'
theorem ok_law (T : Txt K mg A) : FnG P w K mg base CX0 5 A.a_law A.d_law ["_law_numbers"] (spLaw K) := by
  have nd := sc_law.nd
  refine Fun_okG T.f_law sc_law (fun vs H Q E h => ?_) (fun cdv A' outer s H vs Q E hr hG h => ?_)
  · obtain ⟨v, ns, rfl, _⟩ := h
    rfl
  · obtain ⟨a, ns, rfl, hS, hl, hb, k⟩ := h
    refine ⟨_, (pss_one (ps_ret (pe_callB (cr_all rfl) (by rfl) T.b_all (by decide +kernel) (pa_cons (pe_lc (own := [("_law_k", 1)]) (g := gName 1) (tt := tYes) rfl nd (pi_range1 (by rfl) T.b_range (pa_cons (pe_callB (call_max2 rfl) (by rfl) T.b_max (by decide +kernel) (pa_cons pe_int (pa_cons (pe_callB (call_min2 rfl) (by rfl) T.b_min (by decide +kernel) (pa_cons (pe_callB call_len_seq (by rfl) T.b_len (by decide +kernel) (pa_cons (pv 0) pa_nil)) (pa_cons pe_int pa_nil))) pa_nil))) pa_nil)) (blkOk_by (N := nm_law) (sc := defScope st_law) (by decide +kernel)) (fun _ _ _ _ _ => (pg_name (i := 1) nd rfl (Or.inl rfl))) (fun _ _ _ _ _ => pts_nil) (fun _ _ _ _ _ => (pe_callG (ok_law_right T) (hr.mono (by decide)) hG (by rfl) T.m_law_right T.k_law_right T.v_law_right .nil pass0 (pa_cons (pe_call (ok_law_source T) (hr.mono (by decide)) (by rfl) T.m_law_source T.k_law_source T.v_law_source .nil pass0 (pa_cons (pe_call (ok_law_number T) (hr.mono (by decide)) (by rfl) T.m_law_number T.k_law_number T.v_law_number .nil pass0 (pa_cons (pv 0) (pa_cons (pv 1) pa_nil))) pa_nil)) pa_nil)))) pa_nil)))), ?_⟩
    refine ⟨_, rfl, a, _, rfl, Or.inl hS, _, _, rfl, _, _, rfl, ?_⟩
    generalize hj : (if (if 8 < ((ns.map V.int).length : Int) then (8 : Int) else ((ns.map V.int).length : Int)) > 2 then (if 8 < ((ns.map V.int).length : Int) then (8 : Int) else ((ns.map V.int).length : Int)) else 2) = j
    have hj2 : 0 ≤ j ∧ j ≤ 8 := by
      rw [← hj]
      split
      · split <;> omega
      · omega
    refine ⟨j, rfl, by omega, by omega, fun D hD => lc_range (lo := 0) (n := j.toNat) (fun i H2 => Same H H2 ∧ H2 D = some (.lst (List.replicate i (V.bl true)))) ⟨same_new hD, upd_same⟩ ?_ ?_⟩
    · rintro i H2 hi ⟨s2, hd⟩
      refine ⟨rfl, _, rfl, _, rfl, a, ns, _, rfl, s2.seq hS, hb, by omega, by omega, fun n H3 s3 => ⟨n, rfl, fun p H4 hp s4 src => ⟨p, rfl, src, fun H5 kb => ?_⟩⟩⟩
      have hd3 := s3 _ _ hd
      have hDp : D ≠ p := ne_of_none hd3 hp
      refine ⟨List.replicate i (V.bl true), kb _ _ hDp (s4 _ _ hd3), ?_, ?_, ?_⟩
      · rw [List.length_replicate]
        exact lt5000 (by omega)
      · intro b o e
        have hb1 : b ≠ D := ne_of_none e hD
        have hb2 : b ≠ p := ne_of_none (s3 _ _ (s2 _ _ e)) hp
        rw [upd_ne hb1]
        exact kb _ _ hb2 (s4 _ _ (s3 _ _ (s2 _ _ e)))
      · rw [upd_same, List.replicate_succ']
    · rintro H2 ⟨s2, hd⟩
      refine ⟨D, List.replicate j.toNat true, rfl, SqL.of ?_, ?_⟩
      · rw [hd, List.map_replicate]
      · have e : (List.replicate j.toNat true).all id = true := by simp
        rw [e]
        exact k H2
end
end K02
set_option Elab.async false
set_option linter.all false
set_option maxRecDepth 100000
namespace K02
open PySem L2 Mo
theorem walk {l : PySem.W.OpenLaw} {q : Program} {loose : List Str} {XP : (Str → Option Value) → Heap → Prop} {YP : World → Heap → Prop} {d : DefRec} {K : Params → PySem.W.Frag} (hn : l.most = some 63) (hdf : d.params.defaults = []) (hnm : d.name = "law")
    (hY : ∀ (w : World) (h : Heap), YP w h → (K w.params).In h)
    (F : ∀ (w : World) (mg : Str → Option Value) (h : Heap), (K w.params).In h → h.Ns mainGlobals mg → ∃ A : Ads, Txt (K w.params) mg A ∧ ∀ (s : Shared) (v : Value), BindsTo s A.d_law ⟨[v], []⟩ [("_law_numbers", v)]) :
    PySem.W.WalkO q loose XP YP l.row.toRowW d [] (fun f vs => PySem.call f vs) := by
  refine walk_G (n := 63) (k := 5) (x := "_law_numbers") (sp := fun w => spLaw (K w.params)) hn (by decide) hdf ⟨rfl, by decide, by decide⟩ hY ?_ ?_
  · intro w mg fa h KX G hmg
    obtain ⟨A, T, hb⟩ := F w mg h KX G
    rw [hnm, T.m_law] at hmg
    cases hmg
    exact ⟨A.d_law, hb, fun base _ _ => ok_law T⟩
  · intro w H a ns h1 h2 _ h4
    exact ⟨a, ns, rfl, h4, h1, h2, fun _ => rfl⟩
end K02
open PySem PySem.W PyProof.Rows
set_option maxRecDepth 100000 in
set_option maxHeartbeats 0 in
theorem PySem.Challenge.cw_momentcalls_k02_names_and_values_holds : PySem.Challenge.rw_momentcalls_k02_names_and_values.Holds := by
  w_on; o_law; k_head; (case hw => w_witness2)
  k_fill
  refine K02.walk (l := PySem.Challenge.rw_momentcalls_k02_names_and_values) rfl rfl rfl (fun w h Y => PySem.W.kIn_of Y) ?F
  case F =>
    intro w mg h KX G
    refine' K02.txt_mk KX G ?a0 ?l0 ?e0 ?k0 ?a1 ?l1 ?e1 ?k1 ?a2 ?l2 ?e2 ?k2 ?a3 ?l3 ?e3 ?k3 ?a4 ?l4 ?e4 ?k4 ?a5 ?l5 ?e5 ?k5 ?a6 ?l6 ?e6 ?k6 ?a7 ?l7 ?e7 ?k7 ?a8 ?l8 ?e8 ?k8 ?a9 ?l9 ?e9 ?k9 ?a10 ?l10 ?e10 ?k10 ?a11 ?l11 ?e11 ?k11 ?a12 ?l12 ?e12 ?k12 ?a13 ?l13 ?e13 ?k13 ?z_abs ?z_all ?z_bool ?z_divmod ?z_int ?z_isinstance ?z_len ?z_max ?z_min ?z_range ?z_repr ?z_str ?q_LETTERS ?q_SIGNS ?q_NOTHING ?q_YES ?q_LONGEST
    (case a0 => k_is); (case l0 => k_is); (case e0 => k_is); (case k0 => k_is); (case a1 => k_is); (case l1 => k_is); (case e1 => k_is); (case k1 => k_is); (case a2 => k_is); (case l2 => k_is); (case e2 => k_is); (case k2 => k_is); (case a3 => k_is); (case l3 => k_is); (case e3 => k_is); (case k3 => k_is); (case a4 => k_is); (case l4 => k_is); (case e4 => k_is); (case k4 => k_is); (case a5 => k_is); (case l5 => k_is); (case e5 => k_is); (case k5 => k_is); (case a6 => k_is); (case l6 => k_is); (case e6 => k_is); (case k6 => k_is); (case a7 => k_is); (case l7 => k_is); (case e7 => k_is); (case k7 => k_is); (case a8 => k_is); (case l8 => k_is); (case e8 => k_is); (case k8 => k_is); (case a9 => k_is); (case l9 => k_is); (case e9 => k_is); (case k9 => k_is); (case a10 => k_is); (case l10 => k_is); (case e10 => k_is); (case k10 => k_is); (case a11 => k_is); (case l11 => k_is); (case e11 => k_is); (case k11 => k_is); (case a12 => k_is); (case l12 => k_is); (case e12 => k_is); (case k12 => k_is); (case a13 => k_is); (case l13 => k_is); (case e13 => k_is); (case k13 => k_is); (case z_abs => k_is); (case z_all => k_is); (case z_bool => k_is); (case z_divmod => k_is); (case z_int => k_is); (case z_isinstance => k_is); (case z_len => k_is); (case z_max => k_is); (case z_min => k_is); (case z_range => k_is); (case z_repr => k_is); (case z_str => k_is); (case q_LETTERS => k_is); (case q_SIGNS => k_is); (case q_NOTHING => k_is); (case q_YES => k_is); (case q_LONGEST => k_is)
#print axioms PySem.Challenge.cw_momentcalls_k02_names_and_values_holds
