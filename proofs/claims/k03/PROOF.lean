import PyProof.Rows.All
import Wide.All
import OpenK.AllK
import Wide.FinOn
import HandS.ForMost
import HandS.EndBits
import HandS.Wide
import HandS.WideBits
import HandS.IsInst
import HandS.MakeKwOnly
import PyProof.ReprRoads
import HandS.Walk
import HandS.OwnEq
import HandS.Property
import HandS.Conv
import HandS.TupAny
import HandS.FStr
import HandS.TupLen
import KE.GoesMore
import KE.GoesEnum
import HandS.NoneIn
import HandS.SortKw
import HandS.More
import KE.KSuper
import KE.KCallOwn
import HandS.ClsMeth
import HandS.Defaults
import PySem.Challenge.RW_momentcalls_k03_statements_of_one_line
set_option Elab.async false
set_option linter.all false
set_option maxRecDepth 100000
set_option maxHeartbeats 4000000
namespace Mo
open PySem PySem.Spec PyProof.Rows L2

/-! ## Promises of defs that are run where no repr is under way -/
structure FnG (P : Program) (w : World) (K : PySem.W.Frag) (mg : Str → Option Value) (base : Heap) (CX : CXT) (k : Nat) (f : Addr) (fd : FuncData) (ps : List Str) (sp : Sp) : Prop where
  len : ∀ vs H Q E, sp vs H Q E → vs.length = ps.length
  go : ∀ (A : Around) (outer : List Env) (s : Shared) (H : Hp) (args : Args) (us : List Value) (vs : List V) (Q : VK) (E : XK), Room k A → A.guards = some [] →
    Env0 P w K mg base A outer s H → BindsTo s fd args (ps.zip us) → Vals vs us → sp vs H Q E → codeAny (model P w) A (.call (.ref f) args) (CR CX outer P w H s Q E) s

section
variable {P : Program} {w : World} {K : PySem.W.Frag} {mg : Str → Option Value} {base : Heap} {CX : CXT} {k : Nat} {f : Addr} {fd : FuncData} {ps : List Str} {sp : Sp}
theorem FnG.of (F : FnOk P w K mg base CX k f fd ps sp) : FnG P w K mg base CX k f fd ps sp :=
  ⟨F.len, fun A outer s H args us vs Q E hr _ e b v h => F.run A outer s H args us vs Q E hr e b v h⟩
theorem FnG.mono {j : Nat} (F : FnG P w K mg base CX j f fd ps sp) (h : j ≤ k) : FnG P w K mg base CX k f fd ps sp :=
  ⟨F.len, fun A outer s H args us vs Q E hr => F.go A outer s H args us vs Q E (hr.mono h)⟩
end

/-- a def's body, run where no repr is under way -/
theorem fnG_of {CX : CXT} {P : Program} {w : World} {K : PySem.W.Frag} {mg : Str → Option Value} {base : Heap} {k : Nat} {f : Addr} {name qual : Str} {params : Arguments} {body : List Stmt} {scope : Scope}
    {dV kV doc pm cdv ct oc : Value} {an od : Option Addr} {osl : Array (Option Value)} {N ps : List Str} {sp : Sp}
    (lk : K.lookup f = some ⟨oc, od, .func (PySem.W.fnOf name qual params body scope dV kV doc pm an cdv ct), osl⟩) (hcd : PySem.W.codeIn K cdv qual = true)
    (S : FnScope N ps scope) (len : ∀ vs H Q E, sp vs H Q E → vs.length = ps.length)
    (hb : ∀ (A : Around) (outer : List Env) (s : Shared) (H : Hp) (vs : List V) (Q : VK) (E : XK), Room k (A.deeper (envOfC qual scope s.heap.objs.size f cdv)) → A.guards = some [] → sp vs H Q E →
      ∃ t, PSs (cxOf CX P w K mg base N qual scope f cdv A outer s H E) body t ∧ t { nx := fun _ H' => Q .non H', rt := Q } (start N vs) H) :
    FnG P w K mg base CX (k + 1) f (PySem.W.fnOf name qual params body scope dV kV doc pm an cdv ct) ps sp := by
  refine ⟨len, ?_⟩
  intro A outer s H args us vs Q E hr hG env bnd rel wish
  have okK : K.In s.heap := env.mod.kin.keeps fun b o e => (env.bs b o e).1
  have okL : s.heap.NoLimit := env.mod.nolimit.keeps fun b o e => (env.bs b o e).1
  refine codeAny_call_function hr.depth (okK _ _ lk) rfl S.co S.gen rfl (PySem.W.codeRec_of okK hcd) (bnd _ _ _ _ ?_)
  refine wpAny_newFunctionEnv_cells S.kind ?kinds ?rest
  case kinds =>
    rintro ⟨n, v⟩ hy
    cases S.par n (List.of_mem_zip hy).1 with
    | inl q => exact Or.inl q
    | inr q => exact Or.inr ⟨q, PySem.W.cellsFrom_some _ _ _ (Or.inl q)⟩
  case rest =>
    intro env1 he s1 x
    cases he
    refine ⟨okL.keeps x.toInCall.keep, codeAny_func ?_⟩
    obtain ⟨t, ht, hq⟩ := hb A outer s H vs Q E (hr.deeper _) hG wish
    have J := inv_start (CX := CX) (E := E) (qual := qual) (f := f) (cd := cdv) S hr.hd env (len _ _ _ _ wish) rel x
    refine wpAny_mono (ht.run [] s1 (start N vs) H _ J hq) ?_ (fun e s' hs => hs)
    intro fl s' hs
    match fl, hs with
    | .ret u, ⟨v, σ', H', J', rv, q⟩ => exact ⟨v, H', J'.os, J'.bare, J'.base, J'.hok, rv, q⟩
    | .next, ⟨σ', H', J', q⟩ => exact ⟨V.non, H', J'.os, J'.bare, J'.base, J'.hok, rfl, q⟩
    | .brk, ⟨_, _, _, q⟩ => exact q.elim
    | .cont, ⟨_, _, _, q⟩ => exact q.elim

section
variable {P : Program} {w : World} {K : PySem.W.Frag} {mg : Str → Option Value} {base : Heap}
/-- a def that lets no exception out, run where no repr is under way -/
theorem Fun_okG {x qual : Str} {st : Stmt} {f : Addr} {fd : FuncData} {N ps : List Str} {k : Nat} {sp : Sp} (F : Fun K x qual st f fd) (S : FnScope N ps (defScope st)) (len : ∀ vs H Q E, sp vs H Q E → vs.length = ps.length)
    (hb : ∀ (cdv : Value) (A : Around) (outer : List Env) (s : Shared) (H : Hp) (vs : List V) (Q : VK) (E : XK), Room k (A.deeper (envOfC qual (defScope st) s.heap.objs.size f cdv)) → A.guards = some [] → sp vs H Q E →
      ∃ t, PSs (cxOf CX0 P w K mg base N qual (defScope st) f cdv A outer s H E).nox (defBody st) t ∧ t { nx := fun _ H' => Q .non H', rt := Q } (start N vs) H) :
    FnG P w K mg base CX0 (k + 1) f fd ps sp := by
  obtain ⟨oc, od, kV, doc, pm, an, cdv, ct, osl, rfl, lk, hcd⟩ := F.ex
  refine fnG_of lk hcd S len ?_
  intro A outer s H vs Q E hr hG hsp
  have ⟨t, h, q⟩ := hb cdv A outer s H vs Q E hr hG hsp
  exact ⟨t, h.nox, q⟩
end

section
variable {X : Cx} {CX : CXT} {k : Nat} {f : Addr} {fd : FuncData} {ps : List Str} {sp : Sp} {dvs : List V} {ds : List Value} {E : XK} {x : Str} {p pos : Pos} {e : Expr} {es : List Expr} {t tk : TA}
theorem run_fnG {pins : List (Addr × Obj)} {σ : L2.St} {H : Hp} {s : Shared} {Q : VK} {args : Args} {us : List Value} {vs : List V} (F : FnG X.prog X.w X.K X.mg X.base CX k f fd ps sp) (hr : Room k X.A) (hG : X.A.guards = some [])
    (hx : Passes CX X E) (I : Inv X pins σ H s) (hb : BindsTo s fd args (ps.zip us)) (r : Vals vs us) (h : sp vs H Q E) : codeAny (model X.prog X.w) X.A (.call (.ref f) args) (fun r s' => match r with
      | .ok (.ret u) => EP X pins σ Q u s'
      | .ok _ => False
      | .error e => X.xe e s') s := by
  refine codeAny_mono (F.go X.A X.stack s H args us vs Q E hr hG I.env0 hb r h) ?_
  intro r s' hq
  match r, hq with
  | .error e, hq => exact hx pins σ H s e s' I hq
  | .ok (.ret u), hq => exact I.after hq
  | .ok .next, hq => exact hq.elim
  | .ok .brk, hq => exact hq.elim
  | .ok .cont, hq => exact hq.elim
theorem call_fnG {pins : List (Addr × Obj)} {σ : L2.St} {H : Hp} {s : Shared} {Q : VK} {us : List Value} {vs : List V} (F : FnG X.prog X.w X.K X.mg X.base CX k f fd ps sp) (hr : Room k X.A) (hG : X.A.guards = some []) (hb : Binds X.K fd ps ds)
    (hd : Vals dvs ds) (hx : Passes CX X E) (I : Inv X pins σ H s) (r : Vals vs us) (h : sp (vs ++ dvs) H Q E) : wpAny (model X.prog X.w) X.A (call (.ref f) us) (EP X pins σ Q) X.xe s := by
  have r2 : Vals (vs ++ dvs) (us ++ ds) := r.append hd
  have hl := r2.length
  rw [F.len _ _ _ _ h] at hl
  refine wpAny_call (codeAny_mono (run_fnG F hr hG hx I (hb s us I.kIn hl.symm) r2 h) ?_)
  intro r s' hq
  match r, hq with
  | .error e, hq => exact hq
  | .ok (.ret u), hq => exact hq
  | .ok .next, hq => exact hq.elim
  | .ok .brk, hq => exact hq.elim
  | .ok .cont, hq => exact hq.elim
/-- f(e, ..) -/
theorem pe_callG (F : FnG X.prog X.w X.K X.mg X.base CX k f fd ps sp) (hr : Room k X.A) (hG : X.A.guards = some []) (hg : Gl X x) (hm : X.mg x = some (.ref f)) (hk : PySem.W.keepIn X.K (.ref f) = true) (hb : Binds X.K fd ps ds) (hd : Vals dvs ds) (hx : Passes CX X E)
    (ha : PA X (e :: es) t) (hdb : (x == ("__debug__" : Str)) = false := by decide) (he : starEach (e :: es) X.env = (false, eval e X.env) :: starEach es X.env := by rfl)
    (hpl : (backTo pos (starEach es X.env)).any (·.1) = false := by rfl) : PE X (.Call (.Name x p) (e :: es) [] pos) (tCall sp dvs E t) := by
  constructor
  intro pins s σ H Q I h
  apply wpAny_Call_Name_kw
  apply ld_glob I hg hm _ hdb
  apply PySem.W.callWith_K (h₀ := X.base) I.ok.mod.kin hk _ he hpl
  apply thn (ha.run pos pins s σ H _ I h)
  rintro us s1 ⟨vs, H1, I1, r, q⟩
  exact ⟨I1.kIn, call_fnG F hr hG hb hd hx I1 r q⟩
variable {ks : List Str} {kws : List Keyword} {g : List Value → List Value → List Value} {gV : List V → List V → List V}
/-- f(k = v, ..) without positional arguments -/
theorem pe_callK0 (F : FnOk X.prog X.w X.K X.mg X.base CX k f fd ps sp) (hr : Room k X.A) (hg : Gl X x) (hm : X.mg x = some (.ref f)) (hk : PySem.W.keepIn X.K (.ref f) = true) (hb : KBinds X.K fd ps ks g gV) (hx : Passes CX X E) (hkw : PK X kws tk)
    (hall : (backToKw pos (keywordEach kws X.env)).all (·.1.isSome) = true := by rfl) (hks : (backToKw pos (keywordEach kws X.env)).filterMap (·.1) = ks := by rfl) (hdb : (x == ("__debug__" : Str)) = false := by decide)
    (hpl : ((backTo pos (starEach [] X.env)).any (·.1) || (backToKw pos (keywordEach kws X.env)).any (·.1.isNone)) = false := by rfl) :
    PE X (.Call (.Name x p) [] kws pos) (tCallK sp gV E tNil tk) := by
  constructor
  intro pins s σ H Q I h
  apply wpAny_Call_Name_kw
  apply ld_glob I hg hm _ hdb
  apply PySem.W.callWith_KW0 (h₀ := X.base) I.ok.mod.kin hk hall _ hpl
  apply thn (hkw.run pos pins s σ H _ I h)
  rintro ws s2 ⟨zs, H2, I2, rz, q2⟩
  refine ⟨I2.kIn, ?_⟩
  rw [hks]
  exact run_fnk (us := []) (vs := []) F hr hb hx I2 .nil rz q2
end

/-! ## repr of data -/
section
variable {X : Cx}
/-- what repr asks of a datum, and the text that it gives -/
def rRepr (K : PySem.W.Frag) : List V → Hp → VK → Prop := fun xs H Q => ∃ (a : Addr) (d : PyData), xs = [.ref a] ∧ Dp K H (.ref a) d ∧ d.showable = true ∧ d.hasDict = false ∧ d.depth ≤ 60 ∧ d.shown.length ≤ sizeLine ∧ Q (.str d.shown) H
theorem call_repr {k : Nat} (hr : Room k X.A) (hG : X.A.guards = some []) : CallR X (.builtin "repr") (rRepr X.K) := by
  intro pins s σ H xs us Q I r h
  obtain ⟨a, d, rfl, hd, h1, h2, h3, h4, q⟩ := h
  obtain ⟨u, rfl, ru⟩ : ∃ u, us = [u] ∧ RelV (.ref a) u := by
    cases r with
    | cons r1 r2 =>
      cases r2
      exact ⟨_, rfl, r1⟩
  cases ru
  obtain ⟨as, rd⟩ := Dp.reads I d _ _ hd rfl
  have hu := hr.un
  refine repr_of_reads' rd h1 (fun z => ?_) hG (by omega) (fun b o e => e) (fun h' u tk hk => ?_) h4
  · rw [h2] at z
    cases z
  · exact ⟨.str d.shown, H, I.kept hk, ⟨u, rfl⟩, q⟩
end
end Mo

/-! ## The law's own call, its promise run where no repr is under way -/
namespace Mo
open PySem PySem.Spec PyProof.Rows L2
theorem law_coreG {P : Program} {w : World} {K : PySem.W.Frag} {mg mb : Str → Option Value} {k : Nat} {fa a : Addr} {fd : FuncData} {x : Str} {sp : Sp} {s1 : Shared} {vs : List Value} {ns : List Int} {H : Hp}
    (KX : K.In s1.heap) (gl : s1.heap.Ns mainGlobals mg) (bl : s1.heap.Ns builtinsNs mb) (bb : ∀ x : Str, x ≠ "__name__" → mb x = bootBuiltins x) (lim : s1.heap.NoLimit) (gens : s1.gens = #[])
    (obj : s1.heap.get? a = some { cls := .type "list", data := .seq vs.toArray }) (hr : Room k callerA)
    (F : ∀ base : Heap, K.In base → base.Ns mainGlobals mg → FnG P w K mg base CX0 k fa fd [x] sp) (hbind : ∀ (s : Shared) (u : Value), BindsTo s fd ⟨[u], []⟩ [(x, u)])
    (only : Only H) (wish : sp [.ref a] H (fun v _ => v = .bl true) fun _ _ _ => False) (ok : HOk P w H s1.heap) (hA : ∀ b, H b ≠ none → b = a) (hK : H a ≠ none → K.lookup a = none) :
    codeAny (model P w) callerA (.call (.ref fa) ⟨[.ref a], []⟩) (fun r s' => r = .ok (.ret (.bool true)) ∧ OldK s1.heap s'.heap ∧ s'.os = s1.os ∧ AllBare s'.gens) s1 := by
  have free : ∀ {b : Addr} {o : Obj} {es : Array DictEntry} {ep : Nat}, s1.heap.get? b = some o → o.data = .dict es ep → H b = none := by
    intro b o es ep e d
    refine Classical.byContradiction fun n => ?_
    cases hA b n
    rw [obj] at e
    cases e
    cases (show Data.seq vs.toArray _ = Data.dict es ep from d)
  have names : ∀ {b : Addr} {m : Str → Option Value}, s1.heap.Ns b m → (hidT s1.heap H).Ns b m := by
    rintro b m ⟨o, es, ep, e, d, r⟩
    exact ⟨o, es, ep, hidT_get e (free e d), d, r⟩
  have kb : K.In (hidT s1.heap H) := by
    intro b o e
    refine hidT_get (KX b o e) (Classical.byContradiction fun n => ?_)
    cases hA b n
    rw [hK n] at e
    cases e
  have md : Mod K mg (hidT s1.heap H) := by
    obtain ⟨mc, l1, l2⟩ := lim
    exact ⟨kb, names gl, ⟨mb, names bl, bb⟩, ⟨mc, names l1, l2⟩⟩
  have env : Env0 P w K mg (hidT s1.heap H) callerA [] s1 H :=
    ⟨rfl, md, fun b o e => of_hidT e, Nat.le_of_eq (hidT_size _ _), trivial, fun b hb => absurd (show b ∈ ([] : List Addr) from hb) List.not_mem_nil, ok, .of_eq gens⟩
  refine codeAny_mono ((F _ kb (names gl)).go callerA [] s1 H ⟨[.ref a], []⟩ [.ref a] [.ref a] _ _ hr rfl env (hbind s1 (.ref a)) (.cons rfl .nil) wish) ?_
  intro r s' h
  match r, h with
  | .error e, h => exact h.elim
  | .ok .next, h => exact h.elim
  | .ok .brk, h => exact h.elim
  | .ok .cont, h => exact h.elim
  | .ok (.ret u), ⟨v, H', os, bare, un, ok', rv, q⟩ =>
    cases (show v = .bl true from q)
    cases (show u = Value.bool true from rv)
    refine ⟨rfl, OldK.of_keep ?_, os, bare⟩
    intro b o e
    cases z : H b with
    | none => exact un.keep b o e z (fun y => absurd (show b ∈ ([] : List Addr) from y) List.not_mem_nil) List.not_mem_nil
    | some u =>
      cases only b with
      | inl y =>
        rw [z] at y
        cases y
      | inr y =>
        obtain ⟨ob, xs, y⟩ := y
        have e1 := (ok b _ y).1
        have e2 := (ok' b _ (un.frzs b ob _ y)).1
        rw [e] at e1
        cases e1
        exact e2
theorem law_callG {P : Program} {w : World} {K : PySem.W.Frag} {mg mb : Str → Option Value} {k : Nat} {fa a : Addr} {fd : FuncData} {x : Str} {sp : Sp} {s1 : Shared} {vs : List Value} {ns : List Int}
    (KX : K.In s1.heap) (gl : s1.heap.Ns mainGlobals mg) (bl : s1.heap.Ns builtinsNs mb) (bb : ∀ x : Str, x ≠ "__name__" → mb x = bootBuiltins x) (lim : s1.heap.NoLimit) (gens : s1.gens = #[])
    (obj : s1.heap.get? a = some { cls := .type "list", data := .seq vs.toArray }) (hi : IntsAre vs ns) (hl : ns.length ≤ sizeLine) (hr : Room k callerA)
    (F : ∀ base : Heap, K.In base → base.Ns mainGlobals mg → FnG P w K mg base CX0 k fa fd [x] sp) (hbind : ∀ (s : Shared) (u : Value), BindsTo s fd ⟨[u], []⟩ [(x, u)])
    (wish : ∀ H : Hp, Only H → SqL K H a (ns.map V.int) → sp [.ref a] H (fun v _ => v = .bl true) fun _ _ _ => False) :
    codeAny (model P w) callerA (.call (.ref fa) ⟨[.ref a], []⟩) (fun r s' => r = .ok (.ret (.bool true)) ∧ OldK s1.heap s'.heap ∧ s'.os = s1.os ∧ AllBare s'.gens) s1 := by
  have rv := vals_ints hi
  have lenV := hi.length
  by_cases hk : K.lookup a = none
  · let H : Hp := upd (fun _ => none) a (.frz { cls := .type "list", data := .seq vs.toArray } (.lst (ns.map V.int)))
    have at1 : H a = some (.frz { cls := .type "list", data := .seq vs.toArray } (.lst (ns.map V.int))) := upd_same
    have at2 : ∀ b, b ≠ a → H b = none := fun b hb => upd_ne hb
    refine law_coreG (H := H) (ns := ns) KX gl bl bb lim gens obj hr F hbind ?_ ?_ ?_ ?_ (fun _ => hk)
    · intro b
      by_cases hb : b = a
      · cases hb
        exact Or.inr ⟨_, _, at1⟩
      · exact Or.inl (at2 b hb)
    · refine wish H ?_ (Or.inl (Or.inr ⟨_, at1⟩))
      intro b
      by_cases hb : b = a
      · cases hb
        exact Or.inr ⟨_, _, at1⟩
      · exact Or.inl (at2 b hb)
    · intro b u e
      by_cases hb : b = a
      · cases hb
        rw [at1] at e
        cases e
        exact ⟨obj, by rw [List.length_map]; exact hl, vs, _, rv, obj⟩
      · rw [at2 b hb] at e
        cases e
    · intro b n
      exact Classical.byContradiction fun hb => n (at2 b hb)
  · obtain ⟨o, hk⟩ := Option.ne_none_iff_exists'.mp hk
    have e := KX a o hk
    rw [obj] at e
    cases e
    refine law_coreG (H := fun _ => none) (ns := ns) KX gl bl bb lim gens obj hr F hbind (fun _ => Or.inl rfl) (wish _ (fun _ => Or.inl rfl) ?_) ?_ (fun b n => (n rfl).elim) (fun n => (n rfl).elim)
    · exact Or.inr ⟨_, vs.toArray, _, hk, rfl, rfl, rfl, by rw [List.size_toArray, lenV]; exact hl, by simpa using rv⟩
    · intro b u z
      cases z
/-- the goal that k_head leaves, from the law's promise; the script's bits told -/
theorem walk_G {l : PySem.W.OpenLaw} {n k : Nat} {q : Program} {loose : List Str} {XP : (Str → Option Value) → Heap → Prop} {YP : World → Heap → Prop} {d : DefRec} {K : Params → PySem.W.Frag} {sp : World → Sp} {x : Str}
    (hn : l.most = some n) (hn2 : n ≤ sizeLine) (hdf : d.params.defaults = []) (hr : Room k callerA) (hY : ∀ (w : World) (h : Heap), YP w h → (K w.params).In h)
    (F : ∀ (w : World) (mg : Str → Option Value) (fa : Addr) (h : Heap), (K w.params).In h → h.Ns mainGlobals mg → mg d.name = some (.ref fa) → ∃ fd : FuncData, (∀ (s : Shared) (u : Value), BindsTo s fd ⟨[u], []⟩ [(x, u)]) ∧
        ∀ base : Heap, (K w.params).In base → base.Ns mainGlobals mg → FnG l.prog w (K w.params) mg base CX0 k fa fd [x] (sp w))
    (wish : ∀ (w : World) (H : Hp) (a : Addr) (ns : List Int), ns.length ≤ n → (∀ z ∈ ns, Builtin.Int.intBits z ≤ 1048576) → Only H → SqL (K w.params) H a (ns.map V.int) → sp w [.ref a] H (fun v _ => v = .bl true) fun _ _ _ => False) :
    PySem.W.WalkO q loose XP YP l.row.toRowW d [] (fun f vs => PySem.call f vs) := by
  apply Att.attach_callB hn hdf
  intro w s0 s1 mg mb fa o pm cd doc a vs ns G Y _ _ _ hmg hobj hints hlen hbits hg
  have KX := hY w _ Y
  obtain ⟨fd, hb, hF⟩ := F w mg fa _ KX G.T.g hmg
  exact law_callG KX G.T.g G.T.b G.T.builtins G.T.nolimit hg hobj hints (Nat.le_trans hlen hn2) hr hF hb fun H hO hS => wish w H a ns hlen hbits hO hS
end Mo
set_option Elab.async false
set_option linter.all false
set_option maxRecDepth 100000
set_option maxHeartbeats 4000000
namespace Mo
open PySem PySem.Spec PyProof.Rows L2

/-! ## all arguments by name -/
def gK {α : Type} (us ws : List α) : List α := match us with | [] => ws | _ :: _ => []
theorem kb_all {K : PySem.W.Frag} {fd : FuncData} {ps ks : List Str} (hp : ps ≠ []) (h : ∀ us : List Value, us.length = ps.length → bindArgs fd ⟨[], ks.zip us⟩ = pure (ps.zip us)) : KBinds K fd ps ks gK gK := by
  constructor
  · intro s us ws _ hl
    cases us with
    | nil => exact .of_eq (h ws hl)
    | cons a l =>
      exfalso
      apply hp
      exact List.length_eq_zero_iff.mp hl.symm
  · intro vs us zs ws r1 r2
    cases r1 with
    | nil => exact r2
    | cons _ _ => exact .nil
theorem Fun_kb {K : PySem.W.Frag} {x qual : Str} {st : Stmt} {f : Addr} {fd : FuncData} {ps ks : List Str} (F : Fun K x qual st f fd) (hp : ps ≠ [])
    (h : ∀ (kV doc pm : Value) (an : Option Addr) (cdv ct : Value) (us : List Value), us.length = ps.length → bindArgs (PySem.W.fnOf x qual (defArgs st) (defBody st) (defScope st) .none kV doc pm an cdv ct) ⟨[], ks.zip us⟩ = pure (ps.zip us)) :
    KBinds K fd ps ks gK gK := by
  obtain ⟨oc, od, kV, doc, pm, an, cdv, ct, osl, rfl, lk, hcd⟩ := F.ex
  exact kb_all hp (h kV doc pm an cdv ct)

/-! ## the kinds of things, isinstance -/
inductive Ty7 where
  | non | bl | int | str | tup | lst | dic
  deriving DecidableEq
def Ty7.nm : Ty7 → String
  | .non => "NoneType" | .bl => "bool" | .int => "int" | .str => "str" | .tup => "tuple" | .lst => "list" | .dic => "dict"
def Ty7.isi : Ty7 → Ty7 → Bool
  | .non, .non => true | .bl, .bl => true | .bl, .int => true | .int, .int => true | .str, .str => true | .tup, .tup => true | .lst, .lst => true | .dic, .dic => true | _, _ => false
theorem kit7 {K : PySem.W.Frag} (a b : Ty7) (hb : b ≠ .non) : PySem.W.kitOne K (.type a.nm) (.type b.nm) = some (a.isi b) := by
  cases b
  case non => exact absurd rfl hb
  all_goals (cases a <;> exact kit_ty (by decide +kernel))
/-- every sign below 128 -/
def Asc (z : Str) : Prop := ∀ c ∈ z.cps.toList, c < 128
theorem cps_app (x y : Str) : (x ++ y).cps.toList = x.cps.toList ++ y.cps.toList := PySem.W.KT.app_list x y
theorem Asc.app {x y : Str} (hx : Asc x) (hy : Asc y) : Asc (x ++ y) := by
  intro c hc
  rw [cps_app] at hc
  exact (List.mem_append.mp hc).elim (hx c) (hy c)
theorem Asc.by {x : Str} (h : x.cps.toList.all (fun c => decide (c < 128)) = true) : Asc x := fun c hc => of_decide_eq_true (List.all_eq_true.mp h c hc)
theorem Asc.one {z : Str} (h : Asc z) {c : Nat} (hc : c ∈ z.cps.toList) : Asc ⟨#[c]⟩ := by
  intro d hd
  have : d = c := by simpa using hd
  rw [this]
  exact h c hc
theorem Asc.num (i : Int) : Asc (Str.ofString (toString i)) := by
  intro c hc
  rw [Str.ofString_eq_toList] at hc
  obtain ⟨d, hd, rfl⟩ := List.mem_map.mp hc
  exact int_ascii i d hd
theorem Asc.ok {z : Str} (h : Asc z) : PyData.strOk z = true := by
  unfold PyData.strOk
  rw [Array.all_eq_true_iff_forall_mem]
  intro c hc
  have := h c (by simpa using hc)
  exact decide_eq_true (by omega)
theorem dp_strs {K : PySem.W.Frag} {H : Hp} : ∀ l : List Str, DpAll K H (l.map V.str) (l.map PyData.str)
  | [] => .nil
  | y :: l => .cons (.str y) (dp_strs l)
theorem dp_bls {K : PySem.W.Frag} {H : Hp} : ∀ l : List Bool, DpAll K H (l.map V.bl) (l.map PyData.bool)
  | [] => .nil
  | y :: l => .cons (.bl y) (dp_bls l)
theorem lay_strs : ∀ {l : List Str}, (∀ y ∈ l, Asc y) → PyData.canLayAll0 (l.map PyData.str) = true ∧ PyData.depthAll (l.map PyData.str) = 0
  | [], _ => ⟨rfl, rfl⟩
  | y :: l, h => by
    obtain ⟨h1, h2⟩ := lay_strs fun z hz => h z (List.mem_cons_of_mem _ hz)
    constructor
    · show (PyData.strOk y && PyData.canLayAll0 (l.map PyData.str)) = true
      rw [(h y List.mem_cons_self).ok, h1]
      rfl
    · show max 0 (PyData.depthAll (l.map PyData.str)) = 0
      rw [h2]
      rfl
theorem shaped_strs {l : List Str} (h : ∀ y ∈ l, Asc y) : SeqAt.shaped (.list (l.map PyData.str)) = true := by
  obtain ⟨h1, h2⟩ := lay_strs h
  unfold SeqAt.shaped
  rw [Bool.and_eq_true]
  refine ⟨h1, decide_eq_true ?_⟩
  show PyData.depthAll (l.map PyData.str) + 1 ≤ 64
  omega
/-- a thing of one of the seven kinds; a text of at most 5000 plain signs -/
inductive Th (H : Hp) : V → Ty7 → Prop where
  | non : Th H .non .non
  | bl (b : Bool) : Th H (.bl b) .bl
  | int (i : Int) : Th H (.int i) .int
  | str (z : Str) (h : z.length ≤ 5000) (a : Asc z) : Th H (.str z) .str
  | tup {a : Addr} {xs : List V} (h : H a = some (.tup xs)) : Th H (.ref a) .tup
  | lst {a : Addr} {xs : List V} (h : H a = some (.lst xs)) : Th H (.ref a) .lst
  | dK {a : Addr} {kvs : List (Key × V)} (h : H a = some (.dK kvs)) : Th H (.ref a) .dic
  | dT {a : Addr} {kvs : List (List Key × V)} (h : H a = some (.dT kvs)) : Th H (.ref a) .dic
theorem Th.ty {K : PySem.W.Frag} {H : Hp} {v : V} {n : Ty7} (t : Th H v n) : TyX K H v (.type n.nm) := by
  cases t with
  | non => exact .base .non
  | bl b => exact .base (.bl b)
  | int i => exact .base (.int i)
  | str z _ _ => exact .base (.str z)
  | tup h => exact .base (.tup h)
  | lst h => exact .base (.lst h)
  | dK h => exact .base (.dK h)
  | dT h => exact .base (.dT h)
theorem Th.same {H H' : Hp} {v : V} {n : Ty7} (t : Th H v n) (e : Same H H') : Th H' v n := by
  cases t with
  | non => exact .non
  | bl b => exact .bl b
  | int i => exact .int i
  | str z h a => exact .str z h a
  | tup h => exact .tup (e _ _ h)
  | lst h => exact .lst (e _ _ h)
  | dK h => exact .dK (e _ _ h)
  | dT h => exact .dT (e _ _ h)
theorem same_new {H : Hp} {p : Addr} {o : HO} (h : H p = none) : Same H (upd H p o) := fun b u e => by
  rw [upd_ne (ne_of_none e h)]
  exact e
/-- isinstance(x, T) -/
theorem isi_ok {K : PySem.W.Frag} {H : Hp} {v : V} {n : Ty7} {Q : VK} (t : Th H v n) (c : Ty7) (hc : c ≠ .non) (q : Q (.bl (n.isi c)) H) : rIsi K [v, .ty c.nm] H Q :=
  ⟨v, .ty c.nm, .type n.nm, .type c.nm, n.isi c, rfl, .ty _, t.ty, kit7 n c hc, q⟩

/-- things of the seven kinds -/
def AllTh (H : Hp) (xs : List V) : Prop := ∀ x ∈ xs, ∃ n, Th H x n
theorem AllTh.nil (H : Hp) : AllTh H [] := fun _ h => (List.not_mem_nil h).elim
theorem AllTh.cons {H : Hp} {x : V} {xs : List V} {n : Ty7} (t : Th H x n) (h : AllTh H xs) : AllTh H (x :: xs) := by
  intro y hy
  cases List.mem_cons.mp hy with
  | inl e =>
    subst e
    exact ⟨n, t⟩
  | inr e => exact h y e
theorem AllTh.app {H : Hp} {xs ys : List V} (h : AllTh H xs) (k : AllTh H ys) : AllTh H (xs ++ ys) := fun y hy => (List.mem_append.mp hy).elim (h y) (k y)
theorem AllTh.same {H H' : Hp} {xs : List V} (h : AllTh H xs) (e : Same H H') : AllTh H' xs := fun y hy => let ⟨n, t⟩ := h y hy; ⟨n, t.same e⟩
theorem log_le {m : Int} {k : Nat} (h0 : 0 < k) (h : m.natAbs < 2 ^ k) (hk : k ≤ 1920) : m.natAbs.log2 < 1920 := Nat.lt_of_lt_of_le (PySem.Flt.log2_lt_of h0 h) hk
/-! ## names of the module -/
section
variable {X : Cx} {x : Str} {pos : Pos}
theorem pe_gS {z : Str} {t : Tok} (hm : X.mg x = some (.str z t)) (hg : Gl X x := by rfl) (hd : (x == ("__debug__" : Str)) = false := by decide) : PE X (.Name x pos) (tC (.str z)) := pe_glob hg hm ⟨_, rfl⟩ hd
theorem pe_gI {i : Int} {t : Tok} (hm : X.mg x = some (.int i t)) (hg : Gl X x := by rfl) (hd : (x == ("__debug__" : Str)) = false := by decide) : PE X (.Name x pos) (tC (.int i)) := pe_glob hg hm ⟨_, rfl⟩ hd
theorem pe_gR {a : Addr} (hm : X.mg x = some (.ref a)) (hg : Gl X x := by rfl) (hd : (x == ("__debug__" : Str)) = false := by decide) : PE X (.Name x pos) (tC (.ref a)) := pe_glob hg hm rfl hd
theorem pe_ty (T : String) (hm : X.mg x = none) (hv : bootBuiltins x = some (.type T) := by decide +kernel) (hg : Gl X x := by rfl) (hn : x ≠ "__name__" := by decide) (hd : (x == ("__debug__" : Str)) = false := by decide) : PE X (.Name x pos) (tC (.ty T)) := pe_bltn hg hm hv rfl hn hd
end
theorem inV_strs (z : Str) (l : List Str) : inV (.str z) (l.map V.str) = decide (z ∈ l) := by
  induction l with
  | nil => rfl
  | cons y l ih =>
    show ((y == z) || inV (.str z) (l.map V.str)) = _
    rw [ih]
    by_cases h : y = z
    · subst h
      simp
    · have h2 : ¬ z = y := fun e => h e.symm
      simp [h, h2]
theorem len5000 {n : Nat} (h : n ≤ 5000) : n ≤ sizeLine := Nat.le_trans h (by decide)
theorem lt5000 {n : Nat} (h : n < 5000) : n < sizeLine := Nat.lt_trans h (by decide)
theorem at_in {α : Type} {l : List α} {d : Int} (h0 : 0 ≤ d) (h1 : d < (l.length : Int)) : ∃ c, atI l d = some c ∧ c ∈ l := by
  obtain ⟨j, rfl⟩ := Int.eq_ofNat_of_zero_le h0
  have hj : j < l.length := by omega
  exact ⟨l[j], atI_nat (by simp [hj]), List.getElem_mem hj⟩
theorem Asc.cut {z : Str} (h : Asc z) (lo hi : Option Int) : Asc (cutS z lo hi) := by
  intro c hc
  refine h c ?_
  have hc : c ∈ ((z.cps.toList.drop (HT.sIx z.length 0 lo)).take (HT.sIx z.length z.length hi - HT.sIx z.length 0 lo)) := by
    have := hc
    simpa [cutS] using this
  exact List.mem_of_mem_drop (List.mem_of_mem_take hc)
theorem cut_two (z : Str) {a : Int} (h : 0 ≤ a) : (cutS z none (some a)).length + (cutS z (some a) none).length ≤ z.length := by
  have e : ∀ d, HT.sIx z.length d (some a) = min a.toNat z.length := fun d => if_neg (by omega)
  have e1 : (cutS z none (some a)).length = min (HT.sIx z.length z.length (some a) - 0) z.length := by
    show (((z.cps.toList.drop 0).take (HT.sIx z.length z.length (some a) - 0)).toArray).size = _
    rw [List.size_toArray, List.length_take, List.length_drop, Array.length_toList]
    rfl
  have e2 : (cutS z (some a) none).length = min (z.length - HT.sIx z.length 0 (some a)) (z.length - HT.sIx z.length 0 (some a)) := by
    show (((z.cps.toList.drop (HT.sIx z.length 0 (some a))).take (z.length - HT.sIx z.length 0 (some a))).toArray).size = _
    rw [List.size_toArray, List.length_take, List.length_drop, Array.length_toList]
    rfl
  rw [e1, e2, e, e]
  omega
theorem one_length (c : Nat) : (⟨#[c]⟩ : Str).length = 1 := rfl
theorem app_length (x y : Str) : (x ++ y).length = x.length + y.length := strLen_append x y
/-! ## the source of draws -/
def Src (H : Hp) (a : Addr) : Prop := ∃ x y c : Int, H a = some (.lst [.int x, .int y, .int c]) ∧ 0 ≤ x ∧ x ≤ 2147483587
/-- all that was known stays, but for what stands at a -/
def KeepBut (a : Addr) (H H' : Hp) : Prop := ∀ b o, b ≠ a → H b = some o → H' b = some o
theorem KeepBut.refl (a : Addr) (H : Hp) : KeepBut a H H := fun _ _ _ h => h
theorem KeepBut.trans {a : Addr} {H H1 H2 : Hp} (x : KeepBut a H H1) (y : KeepBut a H1 H2) : KeepBut a H H2 := fun b o n h => y b o n (x b o n h)
theorem KeepBut.of_same {a : Addr} {H H' : Hp} (e : Same H H') : KeepBut a H H' := fun b o _ h => e b o h
theorem KeepBut.upd (a : Addr) (H : Hp) (o : HO) : KeepBut a H (L2.upd H a o) := fun b u n h => by
  rw [upd_ne n]
  exact h
theorem Src.same {H H' : Hp} {a : Addr} (s : Src H a) (e : Same H H') : Src H' a := by
  obtain ⟨x, y, c, h, r⟩ := s
  exact ⟨x, y, c, e _ _ h, r⟩
/-- what a draw promises -/
def spTake : Sp := fun vs H Q _ => ∃ (a : Addr) (m : Int), vs = [.ref a, .int m] ∧ Src H a ∧ 0 < m ∧ m < 1073741824 ∧ ∀ (d : Int) (H' : Hp), 0 ≤ d → d < m → Src H' a → KeepBut a H H' → Q (.int d) H'
def spSource : Sp := fun vs H Q _ => ∃ n : Int, vs = [.int n] ∧ ∀ (p : Addr) (H' : Hp), H p = none → Same H H' → Src H' p → Q (.ref p) H'
def spNumber (K : PySem.W.Frag) : Sp := fun vs H Q _ => ∃ (a : Addr) (ns : List Int) (k : Int), vs = [.ref a, .int k] ∧ SqL K H a (ns.map V.int) ∧ (∀ z ∈ ns, Builtin.Int.intBits z ≤ 1048576) ∧ 0 ≤ k ∧ k ≤ 1000 ∧
  ∀ (n : Int) (H' : Hp), Same H H' → Q (.int n) H'
end Mo
set_option Elab.async false
set_option linter.all false
set_option maxRecDepth 100000
set_option maxHeartbeats 4000000
namespace Mo
open PySem PySem.Spec PyProof.Rows L2

/-- a tuple of the written part -/
theorem sqt_K {K : PySem.W.Frag} {H : Hp} {a : Addr} {dd : Option Addr} {vs : Array Value} {n : Nat} {sl : Array (Option Value)} {xs : List V} (h : K.lookup a = some ⟨.type "tuple", dd, .seq vs n, sl⟩) (hz : vs.size ≤ sizeLine) (r : Vals xs vs.toList) : SqT K H a xs :=
  .inr ⟨_, vs, n, h, rfl, rfl, hz, r⟩
theorem kit_of_sub {K : PySem.W.Frag} {C : Addr} {T : String} {b : Bool} (ci : PySem.W.isClsIn K C = true) (tc : PySem.W.typeIn K (.ref C) = some (.type "type")) (sb : PySem.W.subIn K (.type T) (.ref C) = some b) : PySem.W.kitOne K (.type T) (.ref C) = some b := by
  unfold PySem.W.kitOne
  rw [if_neg (show ¬ (Value.type T == Value.ref C) = true from Bool.false_ne_true)]
  show (if ((PySem.W.clsIn K C).isSome && PySem.W.typeIn K (.ref C) == some (.type "type")) = true then PySem.W.subIn K (.type T) (.ref C) else none) = some b
  rw [tc, show (PySem.W.clsIn K C).isSome = true from ci]
  exact sb
theorem kit_self {K : PySem.W.Frag} (v : Value) : PySem.W.kitOne K v v = some true := by
  unfold PySem.W.kitOne
  rw [if_pos (by simp)]
/-! ## a def called beneath a built-in of this frame -/
section
variable {X : Cx} {CX : CXT} {k : Nat} {f C : Addr} {fd : FuncData} {ps : List Str} {sp : Sp} {E : XK}
theorem run_under {pins : List (Addr × Obj)} {σ : L2.St} {H : Hp} {s : Shared} {Q : VK} {us : List Value} {vs : List V} {A : Around} (F : FnOk X.prog X.w X.K X.mg X.base CX k f fd ps sp) (hr : Room k A) (hfr : A.frames = X.A.frames)
    (hb : Binds X.K fd ps []) (hx : Passes CX X E) (I : Inv X pins σ H s) (r : Vals vs us) (h : sp vs H Q E) : wpAny (model X.prog X.w) A (call (.ref f) us) (EP X pins σ Q) X.xe s := by
  have hl := r.length
  rw [F.len _ _ _ _ h] at hl
  have e0 : Env0 X.prog X.w X.K X.mg X.base A X.stack s H := by
    have e := I.env0
    exact ⟨by rw [hfr]; exact e.frames, e.mod, e.bs, e.bsz, e.funs, e.frf, e.hok, e.bare⟩
  have hbs := hb s us I.kIn (by rw [List.append_nil]; exact hl.symm)
  rw [List.append_nil] at hbs
  refine wpAny_call (codeAny_mono (F.run A X.stack s H ⟨us, []⟩ us vs Q E hr e0 hbs r h) ?_)
  intro r s' hq
  match r, hq with
  | .error e, hq => exact hx pins σ H s e s' I hq
  | .ok (.ret u), hq => exact I.after hq
  | .ok .next, hq => exact hq.elim
  | .ok .brk, hq => exact hq.elim
  | .ok .cont, hq => exact hq.elim
/-- what is asked of a class's own special method -/
structure Spc (K : PySem.W.Frag) (C : Addr) (n : Str) (f : Addr) : Prop where
  at_ : PySem.W.findIn K (.ref C) n = some (some (.ref f))
  fn : PySem.W.isFn K (.ref f) = true
/-- repr(o) by the own __repr__ -/
theorem call_reprO (F : FnOk X.prog X.w X.K X.mg X.base CX k f fd ps sp) (hr : Room (k + 1) X.A) (S : Spc X.K C "__repr__" f) (hb : Binds X.K fd ps []) (hx : Passes CX X E) :
    CallR X (.builtin "repr") (fun xs H Q => ∃ a dx fs, xs = [.ref a] ∧ H a = some (.ins C dx fs) ∧ sp [.ref a] H (fun v H' => ∃ z : Str, v = .str z ∧ Q v H') E) := by
  intro pins s σ H xs us Q I r h
  obtain ⟨a, dx, fs, rfl, ha, h⟩ := h
  obtain ⟨u, rfl, ru⟩ := vals1 r
  cases ru
  obtain ⟨mA, J, _⟩ := ins_get I.hok ha
  obtain ⟨od, J, _⟩ := J.look
  obtain ⟨m, hF⟩ := I.fr
  have hu := hr.un
  refine PySem.W.repr_K (by show X.A.units + 1 < cLine; omega) hF I.ok.mod.kin J S.at_ S.fn ?_
  refine wpAny_mono (run_under (A := X.A.in1) (vs := [.ref a]) F hr.in1 rfl hb hx I (.cons rfl .nil) h) (fun v s' hv => ?_) fun _ _ e => e
  obtain ⟨v', H', I', rv, z, rfl, q⟩ := hv
  obtain ⟨t, rfl⟩ := rv
  exact ⟨.str z, H', I', ⟨t, rfl⟩, q⟩
/-- len(o) by the own __len__ -/
theorem call_lenO (F : FnOk X.prog X.w X.K X.mg X.base CX k f fd ps sp) (hr : Room (k + 1) X.A) (S : Spc X.K C "__len__" f) (hb : Binds X.K fd ps []) (hx : Passes CX X E) :
    CallR X (.builtin "len") (fun xs H Q => ∃ a dx fs, xs = [.ref a] ∧ H a = some (.ins C dx fs) ∧ sp [.ref a] H (fun v H' => ∃ n : Int, v = .int n ∧ (0 ≤ n ∧ n < 2 ^ 63) ∧ Q v H') E) := by
  intro pins s σ H xs us Q I r h
  obtain ⟨a, dx, fs, rfl, ha, h⟩ := h
  obtain ⟨u, rfl, ru⟩ := vals1 r
  cases ru
  obtain ⟨mA, J, _⟩ := ins_get I.hok ha
  obtain ⟨od, J, _⟩ := J.look
  obtain ⟨m, hF⟩ := I.fr
  refine PySem.W.len_K hF I.ok.mod.kin J S.at_ S.fn ?_
  refine wpAny_mono (run_under (A := X.A.in1) (vs := [.ref a]) F hr.in1 rfl hb hx I (.cons rfl .nil) h) (fun v s' hv => ?_) fun _ _ e => e
  obtain ⟨v', H', I', rv, n, rfl, hn, q⟩ := hv
  obtain ⟨t, rfl⟩ := rv
  exact ⟨hn, .int n, H', I'.tok _, ⟨_, rfl⟩, q⟩

/-- o == y by the own __eq__: what y is must be known -/
def rEqO (K : PySem.W.Frag) (C : Addr) (sp : Sp) (E : XK) (g : Bool → Bool) : R2 := fun x y H Q => ∃ a dx fs t, x = .ref a ∧ H a = some (.ins C dx fs) ∧ TyX K H y t ∧ PySem.W.notFirst K C t = true ∧
  sp [x, y] H (fun v H' => ∃ b, v = .bl b ∧ Q (.bl (g b)) H') E
theorem op_eqO (F : FnOk X.prog X.w X.K X.mg X.base CX k f fd ps sp) (hr : Room k X.A) (S : Spc X.K C "__eq__" f) (hb : Binds X.K fd ps []) (hx : Passes CX X E) : OpR X (compareOp .Eq) (rEqO X.K C sp E id) := by
  intro pins s σ H x y v u Q I rx ry h
  obtain ⟨a, dx, fs, t, rfl, ha, ty, hn, h⟩ := h
  cases rx
  obtain ⟨mA, J, _⟩ := ins_get I.hok ha
  obtain ⟨od, J, _⟩ := J.look
  obtain ⟨m, hF⟩ := I.fr
  obtain ⟨P, Z, p, _⟩ := kit_of I ry ty
  show wpAny (model X.prog X.w) X.A (richCompare .Eq (.ref a) u) (EP X pins σ Q) X.xe s
  refine PySem.W.cmp_K (op := .Eq) (tb := t) hr.units0 hF I.ok.mod.kin J (Z.ty _ _ I.kIn p) hn S.at_ S.fn ?_
  refine wpAny_mono (run_under (A := X.A) (vs := [.ref a, y]) F hr rfl hb hx I (.cons rfl (.cons ry .nil)) h) (fun v s' hv => ?_) fun _ _ e => e
  obtain ⟨v', H', I', rv, b, rfl, q⟩ := hv
  cases rv
  exact ⟨.bl b, H', I', rfl, q⟩
end
end Mo
namespace MoNe
open PySem PySem.W PySem.Calls PyProof.Rows
theorem ne_bind (self : Value) : bindSpecial (.builtin "object.__ne__") self = pure (.builtin "object.__ne__", [self]) :=
  (Slot.of (T := "object") (name := "__ne__") (owner := "object") (n := "__ne__") (by rw [typeLookup_type, builtinLookup_eq_fast]; kernel_rfl) (by decide +kernel) (by decide +kernel) (by decide +kernel)
    (by first | exact .inl (by decide +kernel) | exact .inr (by decide +kernel)) (by rw [isSubtype_type]; kernel_rfl)).bind self
section
variable {prog : Program} {w : World} {A : Around} {E : Value → Shared → Prop} {s : Shared} {K : Frag} {x C f : Addr} {ox : Obj} {od : Option Obj} {b tb : Value}
theorem ne_code {R : Result → Shared → Prop} (hu : A.units + 1 < cLine) (X : K.In s.heap) (I : InstAt s.heap x ox C od) (he : findIn K (.ref C) "__eq__" = some (some (.ref f))) (hf : isFn K (.ref f) = true) (hm : mroIn K C (.type "object") = some true)
    (h : wpAny (model prog w) A.in1 (call (.ref f) [.ref x, b]) (fun v s' => ∃ r, v = .bool r ∧ R (.ok (.ret (.bool (!r)))) s') (fun e s' => R (.error e) s') s) :
    codeAny (model prog w) A (.call (.builtin "object.__ne__") ⟨[.ref x, b], []⟩) R s := by
  have sub : Looks (model prog w) s.heap (isInstance (.ref x) (.type "object")) true := I.type.andThen (looks_mroIn X hm)
  obtain ⟨hp, g, d, t, os⟩ := s
  refine codeAny_call_builtin (by decide +kernel) PySem.F.cmpEntry_ne (@check_slot (model prog w) _ _ ⟨hp, g, d, t, os⟩ "object.__ne__" "object" "__ne__" (.ref x) [b] [] _ PySem.F.cmpKind_ne PySem.F.cmpSplit_ne sub (PySem.F.cmpArgs_ne _ _) ?_)
  have go : wpAny (model prog w) A.in1 (callSpecialIfBound? (.ref x) "__eq__" [b]) (fun v s' => ∃ r, v = some (.bool r) ∧ R (.ok (.ret (.bool (!r)))) s') (fun e s' => R (.error e) s') ⟨hp, g, d, t, os⟩ :=
    ifBound_K X I he hf (wpAny_mono h (fun v s' hv => let ⟨r, e, q⟩ := hv; ⟨r, by rw [e], q⟩) fun _ _ e => e)
  unfold Builtin.«object.__ne__»
  refine wpAny_bind (wpAny_pure ?_)
  refine wpAny_bind (wpAny_cRoomFor (by show A.units + 1 < cLine; omega) ?_)
  refine wpAny_bind (wpAny_mono go (fun v s' hv => ?_) fun _ _ e => e)
  obtain ⟨r, rfl, q⟩ := hv
  exact wpAny_bind (wpAny_pure (wpAny_pure q))
theorem ne_K {L : Addr} {h₀ : Heap} {m : Str → Option Value} {Q : Value → Shared → Prop} (hu : A.units + 1 < cLine) (F : Fr h₀ L s.heap m) (X₀ : K.In h₀) (I : InstAt s.heap x ox C od) (hb : Looks (model prog w) s.heap (typeOf b) tb) (hn : notFirst K C tb = true)
    (hs : findIn K (.ref C) "__ne__" = some (some (.builtin "object.__ne__"))) (he : findIn K (.ref C) "__eq__" = some (some (.ref f))) (hf : isFn K (.ref f) = true) (hm : mroIn K C (.type "object") = some true)
    (h : wpAny (model prog w) A.in1 (call (.ref f) [.ref x, b]) (fun v s' => ∃ r, v = .bool r ∧ Q (.bool (!r)) s') E s) : wpAny (model prog w) A (richCompare .NotEq (.ref x) b) Q E s := by
  have X := X₀.keeps F.keep
  have one : wpAny (model prog w) A (tryCompare (.ref x) "__ne__" b) (fun r s' => ∃ v, r = some v ∧ Q v s') E s := by
    unfold tryCompare
    have go : wpAny (model prog w) A (call (.builtin "object.__ne__") [.ref x, b]) (fun v s' => ∃ r, v = .bool r ∧ Q (.bool r) s') E s :=
      wpAny_call (ne_code hu X I he hf hm (wpAny_mono h (fun v s' hv => let ⟨r, e, q⟩ := hv; ⟨r, e, _, rfl, q⟩) fun _ _ e => e))
    have fin : wpAny (model prog w) A (call (.builtin "object.__ne__") ([.ref x] ++ [b]) >>= fun v => pure (some v)) (fun r s' => ∃ q, r = some (.bool q) ∧ Q (.bool q) s') E s :=
      wpAny_bind (wpAny_mono go (fun v s' hv => let ⟨r, e, q⟩ := hv; wpAny_pure ⟨r, by rw [e], q⟩) fun _ _ e => e)
    refine wpAny_bind (m := callSpecialIfBound? (.ref x) "__ne__" [b]) ?_
    refine wpAny_mono (Q := fun r s' => ∃ q, r = some (.bool q) ∧ Q (.bool q) s') ?_ (fun r s' hr => ?_) (fun _ _ e => e)
    · simp only [callSpecialIfBound?, bindSpecialIfBound?]
      refine wpAny_holding (wpAny_bind (wpAny_bind (wpAny_bind (I.type.here ((looks_findIn X hs).here ?_)))))
      refine wpAny_bind (wpAny_askSetting (wpAny_ite ?_))
      split
      · exact wpAny_bind (wpAny_of_eq (ne_bind _) (wpAny_pure (by exact fin)))
      · exact wpAny_tryCatch (wpAny_bind (wpAny_of_eq (ne_bind _) (wpAny_pure (by exact fin))))
    · obtain ⟨q, rfl, hq⟩ := hr
      exact wpAny_pure ⟨_, rfl, hq⟩
  unfold richCompare
  simp only [oneThing_ref]
  refine wpAny_holding (wpAny_bind (wpAny_cRoomFor (by omega) ?_))
  refine wpAny_bind (I.type.here (wpAny_bind (hb.here ?_)))
  have fin : ∀ r s', (∃ v, r = some v ∧ Q v s') → ∃ v, r = some v ∧ Q v s' := fun _ _ h => h
  split
  · rename_i q
    have e : subIn K tb (.ref C) = some false := by
      rcases Bool.or_eq_true_iff.mp hn with e | e
      · rw [beq_iff_eq.mp e] at q
        simp at q
      · exact beq_iff_eq.mp e
    refine wpAny_bind ((looks_subIn X e).here ?_)
    simp only [Bool.false_eq_true, if_false]
    refine wpAny_bind (wpAny_mono one ?_ fun _ _ e => e)
    rintro r s' ⟨v, rfl, hq⟩
    exact wpAny_pure hq
  · refine wpAny_bind (wpAny_pure ?_)
    simp only [Bool.false_eq_true, if_false]
    refine wpAny_bind (wpAny_mono one ?_ fun _ _ e => e)
    rintro r s' ⟨v, rfl, hq⟩
    exact wpAny_pure hq
end
end MoNe
namespace Mo
open PySem PySem.Spec PyProof.Rows L2
section
variable {X : Cx} {CX : CXT} {k : Nat} {f C : Addr} {fd : FuncData} {ps : List Str} {sp : Sp} {E : XK}
/-- o != y: by the own __eq__, turned -/
theorem op_neO (F : FnOk X.prog X.w X.K X.mg X.base CX k f fd ps sp) (hr : Room (k + 1) X.A) (S : Spc X.K C "__eq__" f) (hne : PySem.W.findIn X.K (.ref C) "__ne__" = some (some (.builtin "object.__ne__"))) (hm : PySem.W.mroIn X.K C (.type "object") = some true)
    (hb : Binds X.K fd ps []) (hx : Passes CX X E) : OpR X (compareOp .NotEq) (rEqO X.K C sp E not) := by
  intro pins s σ H x y v u Q I rx ry h
  obtain ⟨a, dx, fs, t, rfl, ha, ty, hn, h⟩ := h
  cases rx
  obtain ⟨mA, J, _⟩ := ins_get I.hok ha
  obtain ⟨od, J, _⟩ := J.look
  obtain ⟨m, hF⟩ := I.fr
  obtain ⟨P, Z, p, _⟩ := kit_of I ry ty
  have hu := hr.un
  show wpAny (model X.prog X.w) X.A (richCompare .NotEq (.ref a) u) (EP X pins σ Q) X.xe s
  refine MoNe.ne_K (tb := t) (by omega) hF I.ok.mod.kin J (Z.ty _ _ I.kIn p) hn hne S.at_ S.fn hm ?_
  refine wpAny_mono (run_under (A := X.A.in1) (vs := [.ref a, y]) F hr.in1 rfl hb hx I (.cons rfl (.cons ry .nil)) h) (fun v s' hv => ?_) fun _ _ e => e
  obtain ⟨v', H', I', rv, b, rfl, q⟩ := hv
  cases rv
  exact ⟨b, rfl, .bl (!b), H', I', rfl, q⟩
/-- t.count(x), data -/
theorem mt_tcount (hu : X.A.units + 66 < cLine) : MtR X "tuple.count" (fun x xs H Q => ∃ (a : Addr) (y : V) (d : PyData) (ds : List PyData) (zs : List V), x = V.ref a ∧ xs = [y] ∧ SqT X.K H a zs ∧ DpAll X.K H zs ds ∧ Dp X.K H y d ∧
    PyData.canLayAll0 ds = true ∧ SeqAt.shaped d = true ∧ Q (.int (ds.countP fun z => PyData.eqv z d : Nat)) H) := by
  intro pins s σ H x xs v us Q I rx rs h
  obtain ⟨a, y, d, ds, zs, rfl, rfl, hq, hz, hd, sd, se, q⟩ := h
  cases rx
  obtain ⟨u, rfl, ru⟩ := vals1 rs
  obtain ⟨its, r, pl, _⟩ := I.tuple hq
  obtain ⟨⟨cls, dd, dt, sl⟩, ho, hc, n, hdt⟩ := pl
  simp only at hc hdt
  subst hc
  subst hdt
  obtain ⟨as, r1⟩ := Dp.readsAll I ds zs its hz r
  obtain ⟨bs, r2⟩ := Dp.reads I d y u hd ru
  have e1 : (its.toArray.toList.countP fun y => PyData.eqv (SeqAt.readOf s.heap y) d) = ds.countP fun z => PyData.eqv z d := by
    rw [← SeqAt.readsAll_map ds _ _ sd r1, List.countP_map]
    rfl
  have dp := SeqAt.depth_of_shaped se
  refine call_meets PySem.F.slot_tuple_count ⟨_, ho, rfl⟩ PySem.F.entry_tuple_count (PySem.F.args_tuple_count_2 _ _) (SeqAt.tuple_countAt a its.toArray n dd sl u (fun y => PyData.eqv (SeqAt.readOf s.heap y) d))
    ⟨ho, ?_, ?_⟩
  · refine SeqAt.items_eqAt (by simpa using r1) r2 sd (SeqAt.canLay_of_shaped se) ?_
    have := Nat.min_le_right (PyData.depthAll ds) d.depth
    show X.A.units + 1 + _ < cLine
    omega
  · rw [e1]
    exact ⟨.int _, H, I.tok _, ⟨_, rfl⟩, q⟩
end
end Mo
namespace MoEn
open PySem
open Sem (wp)
open AutoSeq1 (wpAny_loadPart')
set_option maxHeartbeats 1000000 in
theorem new_tup (l : Addr) (items : Array Value) (n : Nat) (dct : Option Addr) (sl : Array (Option Value)) :
    Meets (Builtin.«enumerate.__new__» ⟨[.type "enumerate", .ref l], []⟩) (fun _ R s => s.heap.get? l = some { cls := .type "tuple", dict := dct, data := .seq items n, slots := sl } ∧
      R (.ok (.ret (.ref (s.heap.push { cls := .type "tuple_iterator", data := .fields #[.ref l, .int 0 0] }).objs.size)))
        { s with heap := (s.heap.push { cls := .type "tuple_iterator", data := .fields #[.ref l, .int 0 0] }).push { cls := .type "enumerate", data := .fields #[.none, .bool false, .ref s.heap.objs.size, rawInt 0, .none, .none] } }) := by
  refine .of_wp ?_
  rintro prog w A R ⟨hp, g, d, tk, os⟩ ⟨hl, h⟩
  have hsub := sub_enumerate
  have hL : Heap.IsTuple (Shared.heap ⟨hp, g, d, tk, os⟩) l items := ⟨_, hl, rfl, n, rfl⟩
  wp_walk using wpAny_loadPart' hl
  refine wpAny_stack_any fun st => wpAny_pure ?_
  split
  · rename_i c _ _ _ _ _
    cases (c == Value.type "enumerate") <;> (wp_walk using wpAny_loadPart' hl, wpAny_pyIter_tuple hL; exact ⟨_, rfl, h⟩)
  · wp_walk using wpAny_loadPart' hl, wpAny_pyIter_tuple hL
    exact ⟨_, rfl, h⟩
theorem call_tup {prog : Program} {w : World} {A : Around} {E : Value → Shared → Prop} {s : Shared} {l : Addr} {items : Array Value} {Q : Value → Shared → Prop} (hL : s.heap.IsTuple l items)
    (h : ∀ h', IsEnum h' (s.heap.objs.size + 1) s.heap.objs.size 0 .none → h'.IsTupleIter s.heap.objs.size l 0 → (∀ b o, s.heap.get? b = some o → h'.get? b = some o) → Q (.ref (s.heap.objs.size + 1)) { s with heap := h' }) :
    wpAny (model prog w) A (call (.type "enumerate") [.ref l]) Q E s := by
  obtain ⟨⟨c, dct, dt, sl⟩, hl, hc, n, hd⟩ := hL
  cases (show c = .type "tuple" from hc)
  cases (show dt = .seq items n from hd)
  refine callType_new F.called_enumerate (by decide) (F.typeCall_enumerate_1 _) (F.newCall_enumerate_1 _) (fun obj => F.args_object_init_2 obj _) F.entry_enumerate_new (new_tup l items n dct sl) ⟨hl, ?_⟩
  have sz : (s.heap.push { cls := .type "tuple_iterator", data := .fields #[.ref l, .int 0 0] }).objs.size = s.heap.objs.size + 1 := Heap.size_push ..
  show _ ∧ _
  rw [sz]
  have en := Heap.get?_push_size (s.heap.push { cls := .type "tuple_iterator", data := .fields #[.ref l, .int 0 0] }) (o := { cls := .type "enumerate", data := .fields #[.none, .bool false, .ref s.heap.objs.size, rawInt 0, .none, .none] }) rfl
  rw [sz] at en
  exact ⟨⟨_, en, rfl⟩, h _ en ⟨_, Heap.get?_push_of_some _ (Heap.get?_push_size _ rfl), rfl, rfl⟩ fun b o x => Heap.get?_push_of_some _ (Heap.get?_push_of_some _ x)⟩
end MoEn
namespace Mo
open PySem PySem.Spec PyProof.Rows L2
/-- enumerate(tuple): the tuple at a, each item in a new pair -/
def IteT (K : PySem.W.Frag) (a : Addr) : It :=
  ⟨fun i H => ∃ (xs : List V) (x : V), SqT K H a xs ∧ xs[i]? = some x, fun i H v H' => ∃ T x, v = .ref T ∧ H T = none ∧ H' = upd H T (.tup [.int (i : Nat), x]) ∧ ∀ xs, SqT K H a xs → xs[i]? = some x, fun i H => ∃ xs : List V, SqT K H a xs ∧ xs.length = i⟩
theorem turn_enumT {P : Program} {w : World} {K : PySem.W.Frag} {elts : List Expr} {kk : Nat} {tpos : Pos} (a e it : Addr) (hae : a ≠ e) (hai : a ≠ it) :
    Turn P w K (.Tuple elts kk tpos) (IteT K a) [e, it] e (fun i h => (∃ old, IsEnum h e it ((i : Nat) : Int) old) ∧ h.IsTupleIter it a i ∧ e ≠ it) where
  mem := List.mem_cons_self
  obj := by
    rintro i h ⟨⟨old, he⟩, ⟨o, ho, hc, hd⟩, _⟩ b hb
    rcases List.mem_cons.mp hb with rfl | hb
    · exact ⟨_, he, fun v q => nomatch q⟩
    · cases List.mem_singleton.mp hb
      refine ⟨o, ho, fun v q => ?_⟩
      rw [hd] at q
      cases q
  keep := by
    rintro i h h' ⟨⟨old, he⟩, hi, hne⟩ k
    exact ⟨⟨old, k e (by simp) _ he⟩, hi.at fun o q => k it (by simp) o q, hne⟩
  item := by
    intro X hP hw hK hc i pins s σ H E I hf st hg
    subst hP hw hK
    obtain ⟨⟨old, he⟩, hit, hne⟩ := st
    obtain ⟨xs, x, hq, hx⟩ := hg
    obtain ⟨its, rv, p, hz⟩ := I.tuple hq
    obtain ⟨u, hu, ru⟩ := rv.get hx
    have hil : i < its.toArray.size := by
      rw [List.size_toArray]
      exact (List.getElem?_eq_some_iff.mp hu).1
    have hel : e < s.heap.objs.size := Heap.lt_size he
    have hit2 : it < s.heap.objs.size := by
      obtain ⟨_, q, _⟩ := hit
      exact Heap.lt_size q
    refine wpAny_pyNext_enum_itemD (Draws.tuple (A := X.A.in1) (I.ok.hd hc) it a hai its.toArray) he ⟨hit, p⟩ hil hne (by simp [hne, Ne.symm hae]) ?_
    intro y h' tk hy ho hst hT hsz hk
    have ey : y = u := by
      have : its.toArray[i]? = some y := hy
      rw [List.getElem?_toArray, hu] at this
      exact (Option.some.inj this).symm
    subst ey
    refine ⟨_, rfl, wpAny_letOwnedTupleGo_enum (s := { s with heap := h', toks := tk + 1 }) ho fun h'' he' sb => ?_⟩
    have hT2 : h''.get? s.heap.objs.size = some { cls := .type "tuple", data := .seq #[.int i tk, y] } := (sb.2 _ (Nat.ne_of_gt hel)).trans hT
    have new : ObjOk X.prog X.w (upd H s.heap.objs.size (.tup [.int (i : Nat), x])) h'' s.heap.objs.size (.tup [.int (i : Nat), x]) :=
      ⟨by show 2 ≤ sizeLine; decide, [.int i tk, y], .cons ⟨_, rfl⟩ (.cons ru .nil), ⟨_, hT2, rfl, _, rfl⟩⟩
    have I1 : Inv X pins σ (upd H s.heap.objs.size (.tup [.int (i : Nat), x])) { s with heap := h'', toks := tk + 1 } := by
      refine I.turnedNew (ch := [e, it]) ?_ hf (Nat.le_refl _) new
      intro b ob hb q
      have h1 : b ≠ e := fun z => hb (by simp [z])
      have h2 : b ≠ it := fun z => hb (by simp [z])
      exact (sb.2 b h1).trans (hk b ob h1 h2 q)
    refine ⟨.ref s.heap.objs.size, _, I1, rfl, ⟨_, x, rfl, I.hok.fresh (Nat.le_refl _), rfl, fun ys hy2 => ?_⟩, ⟨⟨y, ?_⟩, hst.1.at fun o q => (sb.2 it (Ne.symm hne)).trans q, hne⟩, fun b hb => ?_⟩
    · rw [I.tuple_inj hy2 hq]
      exact hx
    · have e1 : ((i + 1 : Nat) : Int) = (i : Int) + 1 := by omega
      rw [e1]
      exact he'
    · have hb' : b < s.heap.objs.size := by
        rcases List.mem_cons.mp hb with rfl | hb
        · exact hel
        · cases List.mem_singleton.mp hb
          exact hit2
      rw [upd_ne (Nat.ne_of_lt hb')]
      exact (hf b hb).1
  done := by
    intro X hP hw hK hc i pins s σ H E I hf st hg
    subst hP hw hK
    obtain ⟨⟨old, he⟩, hit, hne⟩ := st
    obtain ⟨xs, hq, hx⟩ := hg
    obtain ⟨its, rv, p, hz⟩ := I.tuple hq
    obtain ⟨f0, f1, f2, f3, f4, f5⟩ := hf it (by simp)
    have hi : i = its.toArray.size := by
      rw [List.size_toArray, ← rv.length]
      exact hx.symm
    subst hi
    refine wpAny_pyNext_enum_endD (Draws.tuple (A := X.A.in1) (I.ok.hd hc) it a hai its.toArray) he ⟨hit, p⟩ ?_
    intro h' eb
    exact ⟨rfl, I.turned (t' := s.toks) (fun b o hb q => eb b o hb q) f0 f1 f3 f4 f5⟩
  self := fun A i s Q E st h => let ⟨⟨_, he⟩, _⟩ := st; wpAny_pyIter_enum he h
def iEnumT (K : PySem.W.Frag) (ta : TA) : TI := fun σ H R => ta σ H fun vs H1 => ∃ a xs, vs = [.ref a] ∧ SqT K H1 a xs ∧ R (IteT K a) H1
theorem pi_enumT {X : Cx} {e : Expr} {ta : TA} {p pos tpos : Pos} {elts : List Expr} {kk : Nat} (hg : Gl X "enumerate") (hm : X.mg "enumerate" = none) (ha : PA X [e] ta) (hs : starEach [e] X.env = [(false, eval e X.env)] := by rfl) :
    PI X (.Tuple elts kk tpos) (.Call (.Name "enumerate" p) [e] [] pos) (iEnumT X.K ta) := by
  constructor
  intro pins s σ H R I h
  refine Call_ (ld_blt I hg hm boot_enumerate (PyProof.Rows.callWith_type1 (thn (ha.run pos pins s σ H _ I h) ?_) hs rfl))
  rintro us s1 ⟨vs, H1, I1, r1, a, xs, rfl, hq, q⟩
  obtain ⟨u, rfl, ru⟩ := vals1 r1
  cases ru
  obtain ⟨its, rv, p', hz⟩ := I1.tuple hq
  have hlt : a < s1.heap.objs.size := by
    obtain ⟨_, z, _⟩ := id p'
    exact Heap.lt_size z
  refine MoEn.call_tup p' fun h' he hit hk => wpAny_pyIter_enum he ?_
  have I2 : Inv X pins σ H1 { s1 with heap := h' } := I1.kept (t' := s1.toks) hk
  refine ⟨s1.heap.objs.size + 1, [s1.heap.objs.size + 1, s1.heap.objs.size], _, _, H1, rfl, I2, turn_enumT a (s1.heap.objs.size + 1) s1.heap.objs.size (Nat.ne_of_lt (Nat.lt_succ_of_lt hlt)) (Nat.ne_of_lt hlt), ⟨⟨.none, he⟩, hit, Nat.succ_ne_self _⟩, fun b hb => ?_, q⟩
  have hle : s1.heap.objs.size ≤ b := by
    rcases List.mem_cons.mp hb with rfl | hb
    · exact Nat.le_add_right _ _
    · cases List.mem_singleton.mp hb
      exact Nat.le_refl _
  exact I1.fpOk hle (I1.hok.fresh hle)
theorem walk_enumT {K : PySem.W.Frag} {a : Addr} {xs : List V} : Walk (IteT K a) xs.length (fun H => SqT K H a xs) (fun i H v H' => ∃ T x, v = .ref T ∧ H T = none ∧ H' = upd H T (.tup [.int (i : Nat), x]) ∧ xs[i]? = some x) :=
  ⟨fun i _ hi q => ⟨xs, xs[i], q, by simp [hi]⟩, fun _ q => ⟨xs, q, rfl⟩, fun i H x H' _ q y => let ⟨T, z, h1, h2, h3, h4⟩ := y; ⟨T, z, h1, h2, h3, h4 xs q⟩⟩
end Mo
set_option Elab.async false
set_option linter.all false
set_option maxRecDepth 100000
set_option maxHeartbeats 4000000
namespace Mo
open PySem
/-! ## repr tells plain data apart -/
abbrev cp (z : Str) : List Nat := z.cps.toList
theorem str_ext {x y : Str} (h : cp x = cp y) : x = y := by
  obtain ⟨a⟩ := x
  obtain ⟨b⟩ := y
  have : a = b := by
    have h2 : a.toList = b.toList := h
    rw [← Array.toArray_toList (xs := a), h2]
  rw [this]
/-- a plain sign: from the space to the tilde, no quote and no backslash -/
def Aln (c : Nat) : Bool := (decide (32 ≤ c) && decide (c ≤ 126)) && (decide (c ≠ 39) && decide (c ≠ 92))
def AlnT (z : Str) : Prop := ∀ c ∈ cp z, Aln c = true
theorem aln_lt {c : Nat} (h : Aln c = true) : c < 128 := by
  unfold Aln at h
  simp only [Bool.and_eq_true, decide_eq_true_eq] at h
  omega
theorem aln_char {c : Nat} (h : Aln c = true) : Builtin.Str.reprChar 39 c = [c] := by
  have all : (List.range 128).all (fun c => !Aln c || decide (Builtin.Str.reprChar 39 c = [c])) = true := by decide +kernel
  have := List.all_eq_true.mp all c (List.mem_range.mpr (aln_lt h))
  rw [h] at this
  simpa using this
theorem fold_aln (q : Nat) (hq : q = 39) : ∀ (l : List Nat) (acc : Array Nat), (∀ c ∈ l, Aln c = true) → (l.foldl (fun out c => out ++ (Builtin.Str.reprChar q c).toArray) acc).toList = acc.toList ++ l
  | [], acc, _ => by simp
  | c :: r, acc, h => by
    subst hq
    rw [List.foldl_cons, fold_aln 39 rfl r _ (fun d hd => h d (List.mem_cons_of_mem _ hd)), aln_char (h c List.mem_cons_self)]
    simp
theorem quote_aln {z : Str} (h : AlnT z) : reprQuote z = 39 := by
  unfold reprQuote
  have hn : z.cps.contains 39 = false := by
    rw [← Bool.not_eq_true, Array.contains_iff_mem]
    intro hm
    have := h 39 (by simpa using hm)
    exact absurd this (by decide)
  rw [hn]
  rfl
theorem repr_aln {z : Str} (h : AlnT z) : cp (reprText z) = 39 :: (cp z ++ [39]) := by
  unfold cp reprText
  rw [quote_aln h, ← Array.foldl_toList]
  simp only [Array.toList_push]
  rw [fold_aln 39 rfl _ _ h]
  simp
theorem cp_join2 (x y : Str) (r : List Str) : cp (Str.join ", " (x :: y :: r)) = cp x ++ ([44, 32] ++ cp (Str.join ", " (y :: r))) := by
  show cp (x ++ ", " ++ Str.join ", " (y :: r)) = _
  show (x ++ ", " ++ Str.join ", " (y :: r)).cps.toList = _
  rw [cps_app, cps_app, List.append_assoc]
  rfl
/-! plain data: nothing, numbers from 0 on, texts of letters and figures, tuples and lists of these -/
mutual
def Pl : PyData → Prop
  | .none => True
  | .int i => 0 ≤ i ∧ i.natAbs.log2 < 1920
  | .str z => AlnT z
  | .tuple ds => PlAll ds
  | .list ds => PlAll ds
  | .bool _ => False
  | .dict _ => False
def PlAll : List PyData → Prop
  | [] => True
  | d :: ds => Pl d ∧ PlAll ds
end
def isFig (c : Nat) : Bool := decide (48 ≤ c) && decide (c ≤ 57)
/-- what stands behind a datum: nothing, or something that does not begin with a figure -/
def Beh (r : List Nat) : Prop := ∀ c t, r = c :: t → isFig c = false
theorem beh_cons {c : Nat} {t : List Nat} (h : isFig c = false) : Beh (c :: t) := by
  intro d u e
  injection e with e1 _
  rw [← e1]
  exact h
theorem figs_part : ∀ (l m r s : List Nat), (∀ c ∈ l, isFig c = true) → (∀ c ∈ m, isFig c = true) → Beh r → Beh s → l ++ r = m ++ s → l = m ∧ r = s
  | [], [], _, _, _, _, _, _, e => ⟨rfl, e⟩
  | [], c :: m, r, s, _, hm, hr, _, e => by
    have := hr c (m ++ s) e
    rw [hm c List.mem_cons_self] at this
    cases this
  | c :: l, [], r, s, hl, _, _, hs, e => by
    have := hs c (l ++ r) e.symm
    rw [hl c List.mem_cons_self] at this
    cases this
  | c :: l, d :: m, r, s, hl, hm, hr, hs, e => by
    injection e with e1 e2
    obtain ⟨h1, h2⟩ := figs_part l m r s (fun x hx => hl x (List.mem_cons_of_mem _ hx)) (fun x hx => hm x (List.mem_cons_of_mem _ hx)) hr hs e2
    exact ⟨by rw [e1, h1], h2⟩
theorem aln_part : ∀ (l m r s : List Nat), (∀ c ∈ l, Aln c = true) → (∀ c ∈ m, Aln c = true) → l ++ 39 :: r = m ++ 39 :: s → l = m ∧ r = s
  | [], [], _, _, _, _, e => ⟨rfl, by injection e⟩
  | [], c :: m, r, s, _, hm, e => by
    injection e with e1 _
    have := hm c List.mem_cons_self
    rw [← e1] at this
    exact absurd this (by decide)
  | c :: l, [], r, s, hl, _, e => by
    injection e with e1 _
    have := hl c List.mem_cons_self
    rw [e1] at this
    exact absurd this (by decide)
  | c :: l, d :: m, r, s, hl, hm, e => by
    injection e with e1 e2
    obtain ⟨h1, h2⟩ := aln_part l m r s (fun x hx => hl x (List.mem_cons_of_mem _ hx)) (fun x hx => hm x (List.mem_cons_of_mem _ hx)) e2
    exact ⟨by rw [e1, h1], h2⟩
theorem num_cp (n : Nat) : cp (Str.ofString (toString (n : Int))) = (Nat.toDigits 10 n).map Char.toNat := PySem.W.KIN.signs_num n
theorem num_figs (n : Nat) : ∀ c ∈ cp (Str.ofString (toString (n : Int))), isFig c = true := by
  intro c hc
  rw [num_cp] at hc
  obtain ⟨d, hd, rfl⟩ := List.mem_map.mp hc
  have := Nat.isDigit_of_mem_toDigits (by decide) (by decide) hd
  unfold Char.isDigit at this
  simp only [Bool.and_eq_true, decide_eq_true_eq] at this
  unfold isFig
  rw [Bool.and_eq_true, decide_eq_true_eq, decide_eq_true_eq]
  exact ⟨UInt32.le_iff_toNat_le.mp this.1, UInt32.le_iff_toNat_le.mp this.2⟩
theorem num_ne (n : Nat) : ∃ c t, cp (Str.ofString (toString (n : Int))) = c :: t := by
  cases e : cp (Str.ofString (toString (n : Int))) with
  | nil =>
    rw [num_cp] at e
    have := List.map_eq_nil_iff.mp e
    exact absurd this Nat.toDigits_ne_nil
  | cons c t => exact ⟨c, t, rfl⟩
theorem num_inj {n m : Nat} (h : cp (Str.ofString (toString (n : Int))) = cp (Str.ofString (toString (m : Int)))) : n = m := by
  rw [num_cp, num_cp] at h
  rw [← PySem.W.KIN.val_back n, ← PySem.W.KIN.val_back m, h]
theorem cp_int {i : Int} (h : 0 ≤ i) : ∃ n : Nat, i = (n : Int) ∧ cp (PyData.int i).shown = cp (Str.ofString (toString (n : Int))) := by
  obtain ⟨n, rfl⟩ := Int.eq_ofNat_of_zero_le h
  exact ⟨n, rfl, rfl⟩
/-- the items with what closes them -/
def its (cl : List Nat) : List PyData → List Nat
  | [] => cl
  | [d] => cp d.shown ++ cl
  | d :: e :: ds => cp d.shown ++ ([44, 32] ++ its cl (e :: ds))
theorem its_join (cl : List Nat) : ∀ ds : List PyData, its cl ds = cp (Str.join ", " (PyData.shownAll ds)) ++ cl
  | [] => rfl
  | [d] => rfl
  | d :: e :: ds => by
    have ih := its_join cl (e :: ds)
    show cp d.shown ++ ([44, 32] ++ its cl (e :: ds)) = cp (Str.join ", " (d.shown :: e.shown :: PyData.shownAll ds)) ++ cl
    rw [ih, cp_join2]
    simp [PyData.shownAll]
theorem cp_list (ds : List PyData) : cp (PyData.list ds).shown = 91 :: its [93] ds := by
  have e : (PyData.list ds).shown = listText (PyData.shownAll ds) := by rw [PyData.shown]
  rw [e, listText_eq_join, its_join]
  show (("[" : Str) ++ Str.join ", " (PyData.shownAll ds) ++ "]").cps.toList = _
  rw [cps_app, cps_app]
  rfl
theorem shownAll_len : ∀ ds : List PyData, (PyData.shownAll ds).length = ds.length
  | [] => rfl
  | d :: ds => by
    show (PyData.shownAll ds).length + 1 = _
    rw [shownAll_len ds]
    rfl
def tcl (ds : List PyData) : List Nat := if ds.length = 1 then [44, 41] else [41]
theorem cp_tup (ds : List PyData) : cp (PyData.tuple ds).shown = 40 :: its (tcl ds) ds := by
  have e : (PyData.tuple ds).shown = tupleText (PyData.shownAll ds) := by rw [PyData.shown]
  rw [e, its_join]
  show (("(" : Str) ++ Str.join ", " (PyData.shownAll ds) ++ ((if (PyData.shownAll ds).length == 1 then ",)" else ")" : String) : Str)).cps.toList = _
  rw [cps_app, cps_app, shownAll_len]
  unfold tcl
  by_cases h : ds.length = 1
  · rw [if_pos h]
    simp only [h]
    rfl
  · rw [if_neg h]
    have : (ds.length == 1) = false := by simpa using h
    rw [this]
    rfl
theorem cp_none : cp PyData.none.shown = [78, 111, 110, 101] := by decide +kernel
/-- the first sign of a datum -/
theorem first_sign : ∀ {d : PyData}, Pl d → ∃ c t, cp d.shown = c :: t ∧ (match d with | .none => c = 78 | .int _ => isFig c = true | .str _ => c = 39 | .tuple _ => c = 40 | .list _ => c = 91 | _ => False)
  | .none, _ => ⟨78, _, cp_none, rfl⟩
  | .int i, h => by
    obtain ⟨n, rfl, e⟩ := cp_int h.1
    obtain ⟨c, t, e2⟩ := num_ne n
    exact ⟨c, t, e.trans e2, num_figs n c (by rw [e2]; exact List.mem_cons_self)⟩
  | .str z, h => ⟨39, _, (congrArg cp (PyData.shown_str z)).trans (repr_aln h), rfl⟩
  | .tuple ds, _ => ⟨40, _, cp_tup ds, rfl⟩
  | .list ds, _ => ⟨91, _, cp_list ds, rfl⟩
theorem same_first {d e : PyData} {r s : List Nat} (hd : Pl d) (he : Pl e) (h : cp d.shown ++ r = cp e.shown ++ s) :
    (d = .none ∧ e = .none) ∨ (∃ i j, d = .int i ∧ e = .int j) ∨ (∃ x y, d = .str x ∧ e = .str y) ∨ (∃ x y, d = .tuple x ∧ e = .tuple y) ∨ (∃ x y, d = .list x ∧ e = .list y) := by
  obtain ⟨c, t, h1, h2⟩ := first_sign hd
  obtain ⟨c', t', h3, h4⟩ := first_sign he
  rw [h1, h3] at h
  injection h with hc _
  subst hc
  cases d <;> cases e <;> simp only at h2 h4 <;> first
    | exact h2.elim
    | exact h4.elim
    | exact .inl ⟨rfl, rfl⟩
    | exact .inr (.inl ⟨_, _, rfl, rfl⟩)
    | exact .inr (.inr (.inl ⟨_, _, rfl, rfl⟩))
    | exact .inr (.inr (.inr (.inl ⟨_, _, rfl, rfl⟩)))
    | exact .inr (.inr (.inr (.inr ⟨_, _, rfl, rfl⟩)))
    | (exfalso; subst h2; exact absurd h4 (by decide))
    | (exfalso; subst h4; exact absurd h2 (by decide))
/-- what may close items -/
def Clo (cl : List Nat) : Prop := cl = [93] ∨ cl = [41] ∨ cl = [44, 41]
theorem clo_tup (ds : List PyData) : Clo (tcl ds) := by
  unfold tcl
  split
  · exact .inr (.inr rfl)
  · exact .inr (.inl rfl)
/-- the items behind the first one -/
def tls (cl : List Nat) : List PyData → List Nat
  | [] => cl
  | d :: ds => [44, 32] ++ (cp d.shown ++ tls cl ds)
theorem its_tls (cl : List Nat) : ∀ (d : PyData) (ds : List PyData), its cl (d :: ds) = cp d.shown ++ tls cl ds
  | d, [] => rfl
  | d, e :: ds => by
    show cp d.shown ++ ([44, 32] ++ its cl (e :: ds)) = _
    rw [its_tls cl e ds]
    rfl
theorem beh_tls {cl : List Nat} (h : Clo cl) (r : List Nat) : ∀ ds : List PyData, Beh (tls cl ds ++ r)
  | [] => by rcases h with rfl | rfl | rfl <;> exact beh_cons rfl
  | d :: ds => beh_cons rfl
theorem its_first {cl : List Nat} (h : cl = [93] ∨ cl = [41]) {e : PyData} {r s : List Nat} (he : Pl e) : cl ++ r = cp e.shown ++ s → False := by
  obtain ⟨c, t, h1, h2⟩ := first_sign he
  rw [h1]
  intro h3
  rcases h with rfl | rfl
  · injection h3 with h4 _
    subst h4
    cases e <;> simp only at h2 <;> first | exact absurd h2 (by decide) | exact h2
  · injection h3 with h4 _
    subst h4
    cases e <;> simp only at h2 <;> first | exact absurd h2 (by decide) | exact h2
def PartD (n : Nat) : Prop := ∀ (d e : PyData) (r s : List Nat), sizeOf d ≤ n → Pl d → Pl e → Beh r → Beh s → cp d.shown ++ r = cp e.shown ++ s → d = e ∧ r = s
def PartL (n : Nat) : Prop := ∀ (ds es : List PyData) (c1 c2 r s : List Nat), sizeOf ds ≤ n → Clo c1 → Clo c2 → PlAll ds → PlAll es → tls c1 ds ++ r = tls c2 es ++ s → ds = es ∧ c1 ++ r = c2 ++ s
theorem part_items {n : Nat} (hD : PartD n) (hL : PartL n) {x y : List PyData} {c1 c2 r s : List Nat} (hx : sizeOf x ≤ n) (k1 : Clo c1) (k2 : Clo c2) (e1 : x = [] → c1 = [93] ∨ c1 = [41]) (e2 : y = [] → c2 = [93] ∨ c2 = [41])
    (hd : PlAll x) (he : PlAll y) (h : its c1 x ++ r = its c2 y ++ s) : x = y ∧ c1 ++ r = c2 ++ s := by
  cases x with
  | nil =>
    cases y with
    | nil => exact ⟨rfl, h⟩
    | cons e es =>
      rw [its_tls, List.append_assoc] at h
      exact (its_first (e1 rfl) he.1 h).elim
  | cons d ds =>
    cases y with
    | nil =>
      rw [its_tls, List.append_assoc] at h
      exact (its_first (e2 rfl) hd.1 h.symm).elim
    | cons e es =>
      rw [its_tls, its_tls, List.append_assoc, List.append_assoc] at h
      have hs : sizeOf (d :: ds) = 1 + sizeOf d + sizeOf ds := rfl
      obtain ⟨h1, h2⟩ := hD d e _ _ (by omega) hd.1 he.1 (beh_tls k1 r ds) (beh_tls k2 s es) h
      obtain ⟨h3, h4⟩ := hL ds es _ _ r s (by omega) k1 k2 hd.2 he.2 h2
      exact ⟨by rw [h1, h3], h4⟩
theorem part_all : ∀ n, PartD n ∧ PartL n
  | 0 => by
    constructor
    · intro d e r s hz
      exfalso
      cases d <;> (simp at hz)
    · intro ds es c1 c2 r s hz
      exfalso
      cases ds <;> (simp at hz)
  | n + 1 => by
    obtain ⟨hD, hL⟩ := part_all n
    constructor
    · intro d e r s hz hd he hr hs h
      rcases same_first hd he h with ⟨rfl, rfl⟩ | ⟨i, j, rfl, rfl⟩ | ⟨x, y, rfl, rfl⟩ | ⟨x, y, rfl, rfl⟩ | ⟨x, y, rfl, rfl⟩
      · exact ⟨rfl, List.append_cancel_left h⟩
      · obtain ⟨n, rfl, e1⟩ := cp_int hd.1
        obtain ⟨m, rfl, e2⟩ := cp_int he.1
        rw [e1, e2] at h
        obtain ⟨h1, h2⟩ := figs_part _ _ r s (num_figs n) (num_figs m) hr hs h
        exact ⟨by rw [num_inj h1], h2⟩
      · rw [PyData.shown_str, PyData.shown_str, repr_aln hd, repr_aln he] at h
        have h : cp x ++ [39] ++ r = cp y ++ [39] ++ s := by injection h
        rw [List.append_assoc, List.append_assoc] at h
        obtain ⟨h1, h2⟩ := aln_part _ _ r s hd he h
        exact ⟨by rw [str_ext h1], h2⟩
      · rw [cp_tup, cp_tup] at h
        have h : its (tcl x) x ++ r = its (tcl y) y ++ s := by injection h
        have hs : sizeOf (PyData.tuple x) = 1 + sizeOf x := PyData.tuple.sizeOf_spec x
        obtain ⟨h1, h2⟩ := part_items hD hL (by omega) (clo_tup _) (clo_tup _) (fun e => .inr (by rw [e]; rfl)) (fun e => .inr (by rw [e]; rfl)) hd he h
        subst h1
        exact ⟨rfl, List.append_cancel_left h2⟩
      · rw [cp_list, cp_list] at h
        have h : its [93] x ++ r = its [93] y ++ s := by injection h
        have hs : sizeOf (PyData.list x) = 1 + sizeOf x := PyData.list.sizeOf_spec x
        obtain ⟨h1, h2⟩ := part_items hD hL (by omega) (.inl rfl) (.inl rfl) (fun _ => .inl rfl) (fun _ => .inl rfl) hd he h
        subst h1
        exact ⟨rfl, List.append_cancel_left h2⟩
    · intro ds es c1 c2 r s hz k1 k2 hd he h
      cases ds with
      | nil =>
        cases es with
        | nil => exact ⟨rfl, h⟩
        | cons e es =>
          exfalso
          rcases k1 with rfl | rfl | rfl
          · injection h with h1 _
            exact absurd h1 (by decide)
          · injection h with h1 _
            exact absurd h1 (by decide)
          · injection h with _ h2
            injection h2 with h3 _
            exact absurd h3 (by decide)
      | cons d ds =>
        cases es with
        | nil =>
          exfalso
          rcases k2 with rfl | rfl | rfl
          · injection h with h1 _
            exact absurd h1 (by decide)
          · injection h with h1 _
            exact absurd h1 (by decide)
          · injection h with _ h2
            injection h2 with h3 _
            exact absurd h3 (by decide)
        | cons e es =>
          have h : cp d.shown ++ (tls c1 ds ++ r) = cp e.shown ++ (tls c2 es ++ s) := by
            rw [← List.append_assoc, ← List.append_assoc]
            injection h with _ h2
            injection h2
          have hs : sizeOf (d :: ds) = 1 + sizeOf d + sizeOf ds := rfl
          obtain ⟨h1, h2⟩ := hD d e _ _ (by omega) hd.1 he.1 (beh_tls k1 r ds) (beh_tls k2 s es) h
          obtain ⟨h3, h4⟩ := hL ds es c1 c2 r s (by omega) k1 k2 hd.2 he.2 h2
          exact ⟨by rw [h1, h3], h4⟩
/-- equal reprs, equal data -/
theorem shown_inj {d e : PyData} (hd : Pl d) (he : Pl e) (h : d.shown = e.shown) : d = e := by
  refine ((part_all (sizeOf d)).1 d e [] [] (Nat.le_refl _) hd he (fun _ _ z => nomatch z) (fun _ _ z => nomatch z) ?_).1
  rw [h]
/-! ## == of plain data -/
theorem eqv_n : ∀ n : Nat, (∀ d e : PyData, sizeOf d ≤ n → Pl d → Pl e → PyData.eqv d e = true → d = e) ∧ (∀ ds es : List PyData, sizeOf ds ≤ n → PlAll ds → PlAll es → PyData.eqvAll ds es = true → ds = es)
  | 0 => by
    constructor
    · intro d e hz
      exfalso
      cases d <;> (simp at hz)
    · intro ds es hz
      exfalso
      cases ds <;> (simp at hz)
  | n + 1 => by
    obtain ⟨hD, hL⟩ := eqv_n n
    constructor
    · intro d e hz hd he h
      cases d with
      | none => cases e <;> first | rfl | (simp [PyData.eqv] at h)
      | bool b => exact hd.elim
      | dict kvs => exact hd.elim
      | int i =>
        cases e <;> first | exact he.elim | (simp [PyData.eqv] at h; try (rw [h]))
      | str x =>
        cases e <;> first | exact he.elim | (simp [PyData.eqv] at h; try (rw [h]))
      | tuple x =>
        cases e with
        | tuple y =>
          have hs : sizeOf (PyData.tuple x) = 1 + sizeOf x := PyData.tuple.sizeOf_spec x
          rw [hL x y (by omega) hd he (by simpa [PyData.eqv] using h)]
        | dict kvs => exact he.elim
        | bool b => exact he.elim
        | _ => simp [PyData.eqv] at h
      | list x =>
        cases e with
        | list y =>
          have hs : sizeOf (PyData.list x) = 1 + sizeOf x := PyData.list.sizeOf_spec x
          rw [hL x y (by omega) hd he (by simpa [PyData.eqv] using h)]
        | dict kvs => exact he.elim
        | bool b => exact he.elim
        | _ => simp [PyData.eqv] at h
    · intro ds es hz hd he h
      cases ds with
      | nil => cases es with
        | nil => rfl
        | cons e es => simp [PyData.eqvAll] at h
      | cons d ds => cases es with
        | nil => simp [PyData.eqvAll] at h
        | cons e es =>
          have hs : sizeOf (d :: ds) = 1 + sizeOf d + sizeOf ds := rfl
          simp only [PyData.eqvAll, Bool.and_eq_true] at h
          rw [hD d e (by omega) hd.1 he.1 h.1, hL ds es (by omega) hd.2 he.2 h.2]
theorem eqv_plain {d e : PyData} (hd : Pl d) (he : Pl e) (h : PyData.eqv d e = true) : d = e := (eqv_n (sizeOf d)).1 d e (Nat.le_refl _) hd he h
theorem lay_n : ∀ n : Nat, (∀ d : PyData, sizeOf d ≤ n → Pl d → d.canLay0 = true) ∧ (∀ ds : List PyData, sizeOf ds ≤ n → PlAll ds → PyData.canLayAll0 ds = true)
  | 0 => by
    constructor
    · intro d hz
      exfalso
      cases d <;> (simp at hz)
    · intro ds hz
      exfalso
      cases ds <;> (simp at hz)
  | n + 1 => by
    obtain ⟨hD, hL⟩ := lay_n n
    constructor
    · intro d hz hd
      cases d with
      | none => rfl
      | bool b => rfl
      | dict kvs => exact hd.elim
      | int i => rfl
      | str x =>
        have : Asc x := fun c hc => aln_lt (hd c hc)
        exact this.ok
      | tuple x =>
        have hs : sizeOf (PyData.tuple x) = 1 + sizeOf x := PyData.tuple.sizeOf_spec x
        exact hL x (by omega) hd
      | list x =>
        have hs : sizeOf (PyData.list x) = 1 + sizeOf x := PyData.list.sizeOf_spec x
        exact hL x (by omega) hd
    · intro ds hz hd
      cases ds with
      | nil => rfl
      | cons d ds =>
        have hs : sizeOf (d :: ds) = 1 + sizeOf d + sizeOf ds := rfl
        show (d.canLay0 && PyData.canLayAll0 ds) = true
        rw [hD d (by omega) hd.1, hL ds (by omega) hd.2]
        rfl
theorem lay_plain {d : PyData} (hd : Pl d) : d.canLay0 = true := (lay_n (sizeOf d)).1 d (Nat.le_refl _) hd
theorem lay_plainAll {ds : List PyData} (hd : PlAll ds) : PyData.canLayAll0 ds = true := (lay_n (sizeOf ds)).2 ds (Nat.le_refl _) hd
theorem eqv_refl_plain {d : PyData} (hd : Pl d) : PyData.eqv d d = true := SeqAt.eqv_refl d (lay_plain hd)
/-- two reprs are equal exactly if the data are -/
theorem alike_plain {d e : PyData} (hd : Pl d) (he : Pl e) : decide (d.shown = e.shown) = PyData.eqv d e := by
  by_cases h : d = e
  · subst h
    rw [eqv_refl_plain hd]
    simp
  · have h1 : ¬ d.shown = e.shown := fun z => h (shown_inj hd he z)
    have h2 : PyData.eqv d e = false := by
      cases z : PyData.eqv d e with
      | false => rfl
      | true => exact absurd (eqv_plain hd he z) h
    rw [h2, decide_eq_false h1]
theorem show_n : ∀ n : Nat, (∀ d : PyData, sizeOf d ≤ n → Pl d → d.showable = true ∧ d.hasDict = false) ∧ (∀ ds : List PyData, sizeOf ds ≤ n → PlAll ds → PyData.showableAll ds = true ∧ PyData.hasDictAll ds = false)
  | 0 => by
    constructor
    · intro d hz
      exfalso
      cases d <;> (simp at hz)
    · intro ds hz
      exfalso
      cases ds <;> (simp at hz)
  | n + 1 => by
    obtain ⟨hD, hL⟩ := show_n n
    constructor
    · intro d hz hd
      cases d with
      | none => exact ⟨rfl, rfl⟩
      | bool b => exact ⟨rfl, rfl⟩
      | dict kvs => exact hd.elim
      | int i => exact ⟨decide_eq_true hd.2, rfl⟩
      | str x => exact ⟨rfl, rfl⟩
      | tuple x =>
        have hs : sizeOf (PyData.tuple x) = 1 + sizeOf x := PyData.tuple.sizeOf_spec x
        exact hL x (by omega) hd
      | list x =>
        have hs : sizeOf (PyData.list x) = 1 + sizeOf x := PyData.list.sizeOf_spec x
        exact hL x (by omega) hd
    · intro ds hz hd
      cases ds with
      | nil => exact ⟨rfl, rfl⟩
      | cons d ds =>
        have hs : sizeOf (d :: ds) = 1 + sizeOf d + sizeOf ds := rfl
        obtain ⟨a1, a2⟩ := hD d (by omega) hd.1
        obtain ⟨b1, b2⟩ := hL ds (by omega) hd.2
        constructor
        · show (d.showable && PyData.showableAll ds) = true
          rw [a1, b1]
          rfl
        · show (d.hasDict || PyData.hasDictAll ds) = false
          rw [a2, b2]
          rfl
theorem show_plain {d : PyData} (hd : Pl d) : d.showable = true ∧ d.hasDict = false := (show_n (sizeOf d)).1 d (Nat.le_refl _) hd
/-! ## how long a repr is at most -/
mutual
def wt : PyData → Nat
  | .none => 4
  | .bool _ => 5
  | .int _ => 1921
  | .str z => z.length + 2
  | .tuple ds => wtAll ds + 3
  | .list ds => wtAll ds + 3
  | .dict _ => 0
def wtAll : List PyData → Nat
  | [] => 0
  | d :: ds => wt d + 2 + wtAll ds
end
theorem wtAll_cons (d : PyData) (ds : List PyData) : wtAll (d :: ds) = wt d + 2 + wtAll ds := by rw [wtAll]
theorem wt_tup (ds : List PyData) : wt (.tuple ds) = wtAll ds + 3 := by rw [wt]
theorem wt_lst (ds : List PyData) : wt (.list ds) = wtAll ds + 3 := by rw [wt]
theorem wt_n : ∀ n : Nat, (∀ d : PyData, sizeOf d ≤ n → Pl d → (cp d.shown).length ≤ wt d) ∧ (∀ (ds : List PyData) (cl : List Nat), sizeOf ds ≤ n → PlAll ds → (its cl ds).length ≤ wtAll ds + cl.length)
  | 0 => by
    constructor
    · intro d hz
      exfalso
      cases d <;> (simp at hz)
    · intro ds cl hz
      exfalso
      cases ds <;> (simp at hz)
  | n + 1 => by
    obtain ⟨hD, hL⟩ := wt_n n
    constructor
    · intro d hz hd
      cases d with
      | none =>
        rw [cp_none, wt]
        decide
      | bool b => exact hd.elim
      | dict kvs => exact hd.elim
      | int i =>
        rw [wt]
        show (Str.ofString (toString i)).cps.toList.length ≤ 1921
        have e := int_text_length_le (a := i) (k := 1920) (by decide) hd.2
        rw [← PySem.ofString_length] at e
        rw [Array.length_toList]
        exact e
      | str x =>
        rw [PyData.shown_str, repr_aln hd, wt]
        have : (cp x).length = x.length := Array.length_toList
        simp only [List.length_cons, List.length_append, List.length_nil]
        omega
      | tuple x =>
        have hs : sizeOf (PyData.tuple x) = 1 + sizeOf x := PyData.tuple.sizeOf_spec x
        rw [cp_tup, wt_tup, List.length_cons]
        have h := hL x (tcl x) (by omega) hd
        have h2 : (tcl x).length ≤ 2 := by
          unfold tcl
          split <;> decide
        omega
      | list x =>
        have hs : sizeOf (PyData.list x) = 1 + sizeOf x := PyData.list.sizeOf_spec x
        rw [cp_list, wt_lst, List.length_cons]
        have h := hL x [93] (by omega) hd
        have h2 : ([93] : List Nat).length = 1 := rfl
        omega
    · intro ds cl hz hd
      cases ds with
      | nil =>
        show cl.length ≤ wtAll [] + cl.length
        omega
      | cons d ds =>
        have hs : sizeOf (d :: ds) = 1 + sizeOf d + sizeOf ds := rfl
        have h1 := hD d (by omega) hd.1
        rw [wtAll_cons]
        cases ds with
        | nil =>
          show (cp d.shown ++ cl).length ≤ _
          rw [List.length_append]
          omega
        | cons e ds =>
          have h2 := hL (e :: ds) cl (by omega) hd.2
          show (cp d.shown ++ ([44, 32] ++ its cl (e :: ds))).length ≤ _
          rw [List.length_append, List.length_append]
          have h3 : ([44, 32] : List Nat).length = 2 := rfl
          omega
theorem shown_len {d : PyData} (hd : Pl d) : d.shown.length ≤ wt d := by
  have := (wt_n (sizeOf d)).1 d (Nat.le_refl _) hd
  rw [Array.length_toList] at this
  exact this
/-- a repr of plain data is a plain text -/
theorem shown_asc_n : ∀ n : Nat, (∀ d : PyData, sizeOf d ≤ n → Pl d → ∀ c ∈ cp d.shown, c < 128) ∧ (∀ (ds : List PyData) (cl : List Nat), sizeOf ds ≤ n → PlAll ds → (∀ c ∈ cl, c < 128) → ∀ c ∈ its cl ds, c < 128)
  | 0 => by
    constructor
    · intro d hz
      exfalso
      cases d <;> (simp at hz)
    · intro ds cl hz
      exfalso
      cases ds <;> (simp at hz)
  | n + 1 => by
    obtain ⟨hD, hL⟩ := shown_asc_n n
    constructor
    · intro d hz hd
      cases d with
      | none =>
        rw [cp_none]
        decide
      | bool b => exact hd.elim
      | dict kvs => exact hd.elim
      | int i => exact Asc.num i
      | str x =>
        rw [PyData.shown_str, repr_aln hd]
        intro c hc
        rcases List.mem_cons.mp hc with rfl | hc
        · decide
        · rcases List.mem_append.mp hc with hc | hc
          · exact aln_lt (hd c hc)
          · rw [List.mem_singleton.mp hc]
            decide
      | tuple x =>
        have hs : sizeOf (PyData.tuple x) = 1 + sizeOf x := PyData.tuple.sizeOf_spec x
        rw [cp_tup]
        intro c hc
        rcases List.mem_cons.mp hc with rfl | hc
        · decide
        · refine hL x (tcl x) (by omega) hd ?_ c hc
          unfold tcl
          split <;> decide
      | list x =>
        have hs : sizeOf (PyData.list x) = 1 + sizeOf x := PyData.list.sizeOf_spec x
        rw [cp_list]
        intro c hc
        rcases List.mem_cons.mp hc with rfl | hc
        · decide
        · exact hL x [93] (by omega) hd (by decide) c hc
    · intro ds cl hz hd hcl
      cases ds with
      | nil => exact hcl
      | cons d ds =>
        have hs : sizeOf (d :: ds) = 1 + sizeOf d + sizeOf ds := rfl
        have h1 := hD d (by omega) hd.1
        cases ds with
        | nil =>
          intro c hc
          rcases List.mem_append.mp (show c ∈ cp d.shown ++ cl from hc) with hc | hc
          · exact h1 c hc
          · exact hcl c hc
        | cons e ds =>
          have h2 := hL (e :: ds) cl (by omega) hd.2 hcl
          intro c hc
          rcases List.mem_append.mp (show c ∈ cp d.shown ++ ([44, 32] ++ its cl (e :: ds)) from hc) with hc | hc
          · exact h1 c hc
          · rcases List.mem_append.mp hc with hc | hc
            · have h3 : ∀ c ∈ ([44, 32] : List Nat), c < 128 := by decide
              exact h3 c hc
            · exact h2 c hc
theorem shown_asc {d : PyData} (hd : Pl d) : Asc d.shown := (shown_asc_n (sizeOf d)).1 d (Nat.le_refl _) hd
end Mo
set_option Elab.async false
set_option linter.all false
set_option maxRecDepth 100000
set_option maxHeartbeats 4000000
namespace Mo
open PySem PySem.Spec PyProof.Rows L2
/-! ## tuples whose object is known: their methods may be called -/
/-- a tuple at p, its object without a dict -/
def TX (H : Hp) (p : Addr) (xs : List V) : Prop := ∃ ob : Obj, ob.dict = none ∧ H p = some (.frz ob (.tup xs))
theorem TX.same {H H' : Hp} {p : Addr} {xs : List V} (h : TX H p xs) (e : Same H H') : TX H' p xs := let ⟨ob, d, h⟩ := h; ⟨ob, d, e _ _ h⟩
theorem TX.sq {K : PySem.W.Frag} {H : Hp} {p : Addr} {xs : List V} (h : TX H p xs) : SqT K H p xs := let ⟨ob, _, h⟩ := h; .inl (.inr ⟨ob, h⟩)
theorem TX.ty {K : PySem.W.Frag} {H : Hp} {p : Addr} {xs : List V} (h : TX H p xs) : TyX K H (.ref p) (.type Ty7.tup.nm) := let ⟨_, _, h⟩ := h; .fTuple h
theorem TX.at {H : Hp} {p : Addr} {xs : List V} (h : TX H p xs) : ∃ o, H p = some o := let ⟨_, _, h⟩ := h; ⟨_, h⟩
theorem TX.keep {H H' : Hp} {a p : Addr} {xs : List V} (h : TX H p xs) (n : p ≠ a) (e : KeepBut a H H') : TX H' p xs := let ⟨ob, d, h⟩ := h; ⟨ob, d, e _ _ n h⟩
section
variable {X : Cx}
theorem laidX {pins : List (Addr × Obj)} {σ : L2.St} {H : Hp} {s : Shared} {xs : List V} {its : List Value} {t' : Nat} (I : Inv X pins σ H s) (hz : xs.length ≤ sizeLine) (r : Vals xs its) :
    Inv X pins σ (upd H s.heap.objs.size (.frz { cls := .type "tuple", data := .seq its.toArray } (.tup xs))) { s with heap := s.heap.push { cls := .type "tuple", data := .seq its.toArray }, toks := t' } :=
  I.laid (t' := t') (fun b ob q => Heap.get?_push_of_some _ q) (Nat.le_refl _) ⟨Heap.get?_push_size _ rfl, hz, its, r, IsTup.new _ _⟩
/-- what is asked of a new tuple -/
abbrev newX (H : Hp) (xs : List V) (Q : VK) : Prop := ∀ (p : Addr) (ob : Obj), ob.dict = none → H p = none → Q (.ref p) (upd H p (.frz ob (.tup xs)))
def tTupX (t : TA) : TE := fun σ H Q => t σ H fun xs H1 => xs.length ≤ sizeLine ∧ newX H1 xs Q
theorem pe_tupX {es : List Expr} {t : TA} {x1} {pos : Pos} (h : PA X es t) : PE X (.Tuple es x1 pos) (tTupX t) := by
  refine ⟨fun pins s σ H Q I hq => ?_⟩
  refine wpAny_Tuple_spliced (thn (h.run pos pins s σ H _ I hq) fun us s1 ⟨xs, H1, I1, r, z, q⟩ => ⟨by rw [← r.length]; exact z, ?_⟩)
  exact ⟨.ref s1.heap.objs.size, _, laidX (t' := s1.toks) I1 z r, rfl, q _ _ rfl (I1.hok.fresh (Nat.le_refl _))⟩
theorem call_tuple_ofX : CallR X (.type "tuple") (fun xs H Q => ∃ p ys, xs = [.ref p] ∧ SqL X.K H p ys ∧ newX H ys Q) := by
  intro pins s σ H xs us Q I r h
  obtain ⟨p, ys, rfl, hq, q⟩ := h
  obtain ⟨u, rfl, rx⟩ := vals1 r
  cases rx
  obtain ⟨its, r', pl, hz⟩ := I.list hq
  have hlen := r'.length
  refine call_tuple_list pl.isList (fun h' kp => ?_) (by simp only [List.size_toArray] <;> omega)
  have I1 : Inv X pins σ H { s with heap := h' } := I.kept (t' := s.toks) kp
  exact ⟨.ref h'.objs.size, _, laidX (t' := s.toks) I1 hz r', rfl, q _ _ rfl (I1.hok.fresh (Nat.le_refl _))⟩
def rCatX (K : PySem.W.Frag) : R2 := fun x y H Q => ∃ a b xs ys, x = .ref a ∧ y = .ref b ∧ SqT K H a xs ∧ SqT K H b ys ∧ xs.length + ys.length ≤ sizeLine ∧
  (xs = [] → Q (.ref b) H) ∧ (ys = [] → Q (.ref a) H) ∧ newX H (xs ++ ys) Q
theorem op_catX : OpR X (binaryOp .Add) (rCatX X.K) := by
  intro pins s σ H x y v u Q I rx ry h
  obtain ⟨a, b, xs, ys, rfl, rfl, ha, hb, hz, q0, q1, q2⟩ := h
  cases rx
  cases ry
  obtain ⟨its, r1, p1, _⟩ := I.tuple ha
  obtain ⟨its2, r2, p2, _⟩ := I.tuple hb
  by_cases hx : xs = []
  · subst hx
    cases r1
    exact cat_tup0 p1 p2 ⟨.ref b, H, I, rfl, q0 rfl⟩
  · refine HT.cat_tup p1 p2 (fun z => hx (r1.nil_iff.mp z)) (fun z => ⟨.ref a, H, I, rfl, q1 (r2.nil_iff.mp z)⟩) (fun z => ?_) (by rw [← r1.length, ← r2.length]; exact hz)
    exact ⟨.ref s.heap.objs.size, _, laidX (t' := s.toks) I (by rw [List.length_append]; exact hz) (r1.append r2), rfl, q2 _ _ rfl (I.hok.fresh (Nat.le_refl _))⟩
def rSlX1 (K : PySem.W.Frag) : V → Option Int → Option Int → Hp → VK → Prop := fun x lo hi H Q => ∃ a xs, x = .ref a ∧ SqT K H a xs ∧
  (cutV xs lo hi = xs → Q (.ref a) H) ∧ newX H (cutV xs lo hi) Q
theorem cut_whole {xs : List V} {lo hi : Option Int} (h : HT.sIx xs.length 0 lo = 0 ∧ HT.sIx xs.length xs.length hi = xs.length) : cutV xs lo hi = xs := by
  unfold cutV
  rw [h.1, h.2]
  simp
theorem sl_tupX : SlR X (rSlX1 X.K) := by
  intro pins s σ H x v vl vu lo hi sl Q I rx hs pl pu h
  obtain ⟨a, xs, rfl, hx, q1, q2⟩ := h
  cases rx
  obtain ⟨its, r, ht, hz⟩ := I.tuple hx
  have hlen : its.toArray.size = xs.length := by rw [List.size_toArray]; exact r.length.symm
  refine ⟨"tuple", _, PyProof.Rows.slot_tuple_getitem.lookup, ht.typeIs, ?_⟩
  by_cases hw : HT.sIx xs.length 0 lo = 0 ∧ HT.sIx xs.length xs.length hi = xs.length
  · exact getItem_tuple_whole ht hs pl pu (by rw [hlen]; exact hw) ⟨.ref a, H, I, rfl, q1 (cut_whole hw)⟩
  · refine HT.getItem_tuple_cut ht hs pl pu (by rw [hlen]; exact hw) ?_ (by rw [hlen]; exact hz)
    rw [hlen]
    exact ⟨.ref s.heap.objs.size, _, laidX (t' := s.toks) I (Nat.le_trans (cutV_length xs lo hi) hz) ((r.drop (HT.sIx xs.length 0 lo)).take (HT.sIx xs.length xs.length hi - HT.sIx xs.length 0 lo)), rfl, q2 _ _ rfl (I.hok.fresh (Nat.le_refl _))⟩
/-- t.m(..) of such a tuple -/
def tBX (r : V → List V → Hp → VK → Prop) (to : TE) (t : TA) : TE := fun σ H Q => to σ H fun x H1 => (∃ p ys, x = .ref p ∧ TX H1 p ys) ∧ t σ H1 fun xs H2 => r x xs H2 Q
theorem pe_bmX {o e : Expr} {es : List Expr} {to : TE} {t : TA} {name : Str} {apos cpos : Pos} {id : String} {r : V → List V → Hp → VK → Prop} (slot : Slot "tuple" name id) (hty : typeOf (.builtin id) = pure (.type "method_descriptor")) (hm : MtR X id r) (ho : PE X o to) (ha : PA X (e :: es) t)
    (hbase : attributeBase o name X.env (eval o X.env) = eval o X.env := by rfl)
    (hfew : ((backTo cpos (starEach (e :: es) X.env)).all (fun x => !x.1) && (backToKw cpos (keywordEach [] X.env)).all (fun x => x.1.isSome)
      && decide ((e :: es).length + ([] : List Keyword).length + (if ([] : List Keyword).isEmpty then 0 else 1) < 30)) = true := by rfl)
    (hline : (apos.endLine == cpos.line) = true := by rfl) (hs : starEach (e :: es) X.env = (false, eval e X.env) :: starEach es X.env := by rfl) (hplain : (backTo cpos (starEach es X.env)).any (·.1) = false := by rfl) :
    PE X (.Call (.Attribute o name apos) (e :: es) [] cpos) (tBX r to t) := by
  refine ⟨fun pins s σ H Q I h => ?_⟩
  refine wpAny_Call_method_late hbase hfew hline rfl (thn (ho.run pins s σ H _ I h) fun v s1 ⟨x, H1, I1, r1, ty, q1⟩ => ?_)
  obtain ⟨p, ys, rfl, ob, hd, hp⟩ := ty
  obtain ⟨g1, _, _, _, o2, g2, hc, _⟩ := (show ObjOk X.prog X.w H1 s1.heap p (.frz ob (.tup ys)) from I1.hok p _ hp)
  cases (show v = Value.ref p from r1)
  have e2 : o2 = ob := by
    rw [g1] at g2
    exact (Option.some.inj g2).symm
  subst e2
  refine ⟨"tuple", id, PySem.F.plainAttrs_tuple, slot, hty, ⟨_, g1, hc⟩, fun a e => by cases e; exact ⟨_, g1, hd⟩, ?_⟩
  have hA := ha.run cpos pins s1 σ H1 _ I1 q1
  rw [hs] at hA ⊢
  refine Calls.callWith_builtin (by show (false || (backTo cpos (starEach es X.env)).any (·.1)) = false; rw [hplain] <;> rfl) (Calls.evalArgs_plain ?_)
  exact thn hA fun us s2 ⟨vs, H2, I2, r2, q2⟩ => hm pins s2 σ H2 (.ref p) vs (.ref p) us Q I2 r1 r2 q2
end
end Mo
set_option Elab.async false
set_option linter.all false
set_option maxRecDepth 100000
set_option maxHeartbeats 4000000
/-! max(xs, default=d); stars in displays -/
namespace MoMx
open PySem PySem.Spec PyProof.Rows
section
variable {prog : Program} {w : World} {A : Around} {E : Value → Shared → Prop} {s : Shared}
theorem tree_kw {id : String} {b : Builtin} {args : List Value} {kw : List (Str × Value)} {Q : Value → Shared → Prop} (hk : builtinKind id = none) (hp : plainId id = true) (hb : entryFor table id = some b) (ha : argsOk id ⟨args, kw⟩)
    (hc : wpAny (model prog w) A.in1 (b ⟨args, kw⟩) (fun fin s' => match fin with
      | .done f => (match (Except.ok f : Result) with | .ok (.ret v) => Q v s' | .ok _ => False | .error e => E e s')
      | .again c' => c'.quiet = true ∧ codeAny (model prog w) A c' (fun r s' => match r with | .ok (.ret v) => Q v s' | .ok _ => False | .error e => E e s') s') E s) :
    wpAny (model prog w) A (call (.builtin id) args kw) Q E s := by
  refine wpAny_call (codeAny_call_builtin hp hb ?_)
  simp only [checkBuiltinCall, hk]
  cases z : Manifest.signature? id with
  | none => exact wpAny_pure hc
  | some sig =>
    have ok : Bind.checkArgs id sig ⟨args, kw⟩ = pure () := by simpa only [argsOk, z] using ha
    simp only [ok]
    exact wpAny_pure hc
end
section
variable {prog : Program} {w : World} {A : Around} {R : Result → Shared → Prop} {I : Addr} {fp wr : List Addr} {n : Nat} {P : Nat → Value → Prop} {St : Nat → Heap → Prop}
/-- what the list of the best holds when i items are seen -/
def Best (P : Nat → Value → Prop) (bt : Nat → Nat → Bool) (i : Nat) (old : Array Value) : Prop := (i = 0 ∧ old = #[]) ∨ ∃ vb j, i = j + 1 ∧ old = #[vb, vb] ∧ P (argBest bt j) vb
theorem loop_d (W : Walks prog w A.in1 I fp wr n P St) (bt : Nat → Nat → Bool) (hcmp : CmpOf prog w A.in1 .Gt P bt) (S : Addr) (hSf : S ∉ fp) (d : Value) :
    ∀ (k i : Nat) (s : Shared) (old : Array Value) (c : Nat), n - i = k → i ≤ n → St i s.heap → Best P bt i old → s.heap.get? S = some { cls := .type "list", dict := none, data := .seq old c, slots := #[] } →
    (∀ v h' tk, (n = 0 ∧ v = d ∨ ∃ j, n = j + 1 ∧ P (argBest bt j) v) → (∀ b o, b ∉ wr → b ≠ S → s.heap.get? b = some o → h'.get? b = some o) → R (.ok (.ret v)) { s with heap := h', toks := tk }) →
    codeAny (model prog w) A (.builtin "max.loop" ⟨[.ref I, .none, .ref S], [("default", d)]⟩) R s := by
  have hSw : S ∉ wr := fun h => hSf (W.sub _ h)
  have nm : (toString "max" ++ toString ".loop" : String) = "max.loop" := by decide
  intro k
  induction k with
  | zero =>
    intro i s old c hk hi hst hB hS hR
    have hin : i = n := by omega
    subst hin
    refine codeAny_builtin F.entry_max_loop ?_
    rw [Around.under_plainId F.plain_max_loop _]
    show wpAny _ A.in1 (seqItems? (.ref S) >>= _) _ _ s
    refine wpAny_bind (wpAny_seqItems hS rfl ?_)
    show wpAny _ A.in1 (tryCatch (pyNext (.ref I)) _ >>= _) _ _ s
    refine wpAny_bind (wpAny_tryCatch (W.done s _ _ hst fun h' tk kp => ?_))
    rcases hB with ⟨rfl, rfl⟩ | ⟨vb, j, rfl, rfl, hp⟩
    · exact wpAny_bind (wpAny_rule (wpAny_pure (hR d h' tk (.inl ⟨rfl, rfl⟩) fun b o n1 _ e => kp b o n1 e)))
    · have hS' := kp S _ hSw hS
      show wpAny _ A.in1 (updateSeq S (fun _ => #[]) >>= _) _ _ _
      refine wpAny_bind (wpAny_updateSeq hS' rfl (wpAny_bind (wpAny_letGo (wpAny_pure ?_))))
      exact hR vb _ tk (.inr ⟨j, rfl, hp⟩) fun b o n1 n2 e => (Heap.get?_update_other _ _ (Ne.symm n2)).trans (kp b o n1 e)
  | succ k ih =>
    intro i s old c hk hi hst hB hS hR
    have hlt : i < n := by omega
    have kf : ∀ {h : Heap} {o : Obj} {b : Addr} {g : Obj → Obj}, b ∈ fp → h.get? b = some o → (h.update S g).get? b = some o := fun hb e => (Heap.get?_update_other _ _ (fun z => hSf (by rw [z]; exact hb))).trans e
    refine codeAny_builtin F.entry_max_loop ?_
    rw [Around.under_plainId F.plain_max_loop _]
    show wpAny _ A.in1 (seqItems? (.ref S) >>= _) _ _ s
    refine wpAny_bind (wpAny_seqItems hS rfl ?_)
    show wpAny _ A.in1 (tryCatch (pyNext (.ref I)) _ >>= _) _ _ s
    refine wpAny_bind (wpAny_tryCatch (W.item i s _ _ hlt hst fun v h' tk hP hst' kp => ?_))
    have hS' := kp S _ hSw hS
    rcases hB with ⟨rfl, rfl⟩ | ⟨vb, j, rfl, rfl, hp⟩
    · show wpAny _ A.in1 (updateSeq S (fun _ => #[v, v]) >>= _) _ _ _
      refine wpAny_bind (wpAny_updateSeq hS' rfl ?_)
      rw [nm]
      refine wpAny_pure ⟨plainId_quiet F.plain_max_loop _, ih 1 _ _ _ (by omega) hlt (W.frame _ _ _ hst' fun b hb o e => kf hb e) (.inr ⟨v, 0, rfl, rfl, hP⟩) (Heap.get?_update_self _ hS' rfl) fun v2 h2 tk2 hv2 kp2 => ?_⟩
      exact hR v2 h2 tk2 hv2 fun b o n1 n2 e => kp2 b o n1 n2 ((Heap.get?_update_other _ _ (Ne.symm n2)).trans (kp b o n1 e))
    · show wpAny _ A.in1 (tryCatch (holding [v, v] (richCompare .Gt v vb >>= _)) _ >>= _) _ _ _
      refine wpAny_bind (wpAny_tryCatch (wpAny_holding (wpAny_bind (hcmp (j + 1) (argBest bt j) v vb _ _ _ hP hp (wpAny_bind (wpAny_holding (wpAny_truthy_bool (wpAny_bind (wpAny_letGo (wpAny_pure ?_))))))))))
      cases hb : bt (j + 1) (argBest bt j) with
      | true =>
        simp only [if_true]
        refine wpAny_bind (wpAny_updateSeq hS' rfl (wpAny_bind (wpAny_letGo ?_)))
        rw [nm]
        refine wpAny_pure ⟨plainId_quiet F.plain_max_loop _, ih (j + 2) _ _ _ (by omega) hlt (W.frame _ _ _ hst' fun b hb o e => kf hb e) (.inr ⟨v, j + 1, rfl, rfl, by simp only [argBest, hb, if_true]; exact hP⟩) (Heap.get?_update_self _ hS' rfl) fun v2 h2 tk2 hv2 kp2 => ?_⟩
        exact hR v2 h2 tk2 hv2 fun b o n1 n2 e => kp2 b o n1 n2 ((Heap.get?_update_other _ _ (Ne.symm n2)).trans (kp b o n1 e))
      | false =>
        simp only [Bool.false_eq_true, if_false]
        refine wpAny_bind (wpAny_letGo ?_)
        rw [nm]
        refine wpAny_pure ⟨plainId_quiet F.plain_max_loop _, ih (j + 2) _ _ c (by omega) hlt hst' (.inr ⟨vb, j + 1, rfl, rfl, by simp only [argBest, hb, Bool.false_eq_true, if_false]; exact hp⟩) hS' fun v2 h2 tk2 hv2 kp2 => ?_⟩
        exact hR v2 h2 tk2 hv2 fun b o n1 n2 e => kp2 b o n1 n2 (kp b o n1 e)
end
theorem args_d (a d : Value) : argsOk "max" ⟨[a], [("default", d)]⟩ := by unfold argsOk; kernel_rfl
section
variable {prog : Program} {w : World} {A : Around} {E : Value → Shared → Prop} {s : Shared}
theorem call_d {x d : Value} {Q : Value → Shared → Prop}
    (h : wpAny (model prog w) A.in1 (pyIter x) (fun it s₂ => ∃ I fp wr n P St bt, it = .ref I ∧ Walks prog w A.in1 I fp wr n P St ∧ St 0 s₂.heap ∧ (∀ b ∈ fp, b < s₂.heap.objs.size) ∧ CmpOf prog w A.in1 .Gt P bt ∧
      ∀ v h' tk, (n = 0 ∧ v = d ∨ ∃ j, n = j + 1 ∧ P (argBest bt j) v) → (∀ b o, b ∉ wr → s₂.heap.get? b = some o → h'.get? b = some o) → Q v { s₂ with heap := h', toks := tk }) E s) :
    wpAny (model prog w) A (call (.builtin "max") [x] [("default", d)]) Q E s := by
  have nm : (toString "max" ++ toString ".loop" : String) = "max.loop" := by decide
  refine tree_kw F.kind_max F.plain_max F.entry_max (args_d _ _) ?_
  show wpAny _ A.in1 (Builtin.Builtins.bindParams "max" ["key", "default"] 0 ⟨[], [("default", d)]⟩ >>= _) _ _ s
  refine wpAny_bind (wpAny_of_eq (show Builtin.Builtins.bindParams "max" ["key", "default"] 0 ⟨[], [("default", d)]⟩ = pure [none, some d] from rfl) ?_)
  refine wpAny_bind (wpAny_pure ?_)
  refine wpAny_bind (wpAny_mono h (fun it s₂ h₂ => ?_) fun _ _ e => e)
  obtain ⟨I, fp, wr, n, P, St, bt, rfl, W, hst, hfp, hcmp, hQ⟩ := h₂
  refine wpAny_bind (wpAny_newObj_type ?_)
  have hSf : s₂.heap.objs.size ∉ fp := fun hm => Nat.lt_irrefl _ (hfp _ hm)
  rw [nm]
  refine wpAny_pure ⟨plainId_quiet F.plain_max_loop _, loop_d W bt hcmp s₂.heap.objs.size hSf d n 0 _ #[] _ rfl (Nat.zero_le _) (W.frame _ _ _ hst fun b _ o e => Heap.get?_push_of_some _ e) (.inl ⟨rfl, rfl⟩) (Heap.get?_push_size _ rfl) fun v h' tk hP hk => ?_⟩
  exact hQ v h' tk hP fun b o n1 e => hk b o n1 (Nat.ne_of_lt (Heap.lt_size e)) (Heap.get?_push_of_some _ e)
end
end MoMx
namespace Mo
open PySem PySem.Spec PyProof.Rows L2
section
variable {X : Cx}
/-- max(xs, default=d), xs a list of ints -/
def rMaxDf (K : PySem.W.Frag) : List V → List V → Hp → VK → Prop := fun vs zs H Q => ∃ (a : Addr) (ns : List Int) (d : V), vs = [V.ref a] ∧ zs = [d] ∧ SqL K H a (ns.map V.int) ∧ (ns = [] → Q d H) ∧ ∀ m, m ∈ ns → (∀ y, y ∈ ns → y ≤ m) → Q (.int m) H
theorem cr_maxDf (hc : X.calm = true) : CallRK X (.builtin "max") ["default"] (rMaxDf X.K) := by
  intro pins s σ H vs zs us ws Q I r1 r2 h
  obtain ⟨a, ns, d, rfl, rfl, hs, q0, q⟩ := h
  obtain ⟨its, rv, hl, _⟩ := I.list hs
  rw [Vals.ref1 r1]
  obtain ⟨ud, rfl, rd⟩ := vals1 r2
  have hi := rv.ints
  have hl := hl.isList
  obtain ⟨xs, e⟩ := hi.allInts.items
  have hn : numsOf (intItems xs).toList = ns := by rw [← e]; exact hi.numsOf
  rw [nums_intItems] at hn
  subst hn
  rw [e] at hl
  show wpAny (model X.prog X.w) X.A (call (.builtin "max") [.ref a] [("default", ud)]) _ _ s
  refine MoMx.call_d (iter_intList hl fun s₂ e2 st hfp hlI => ?_)
  subst e2
  refine ⟨_, _, _, _, _, _, _, rfl, Walks.list (A := X.A.in1) (I.ok.hd hc) _ a hlI (intItems xs), st, hfp, CmpOf.ints_gt (numAt xs) (fun _ _ => intItems_at), fun v h' tk hP hk => ?_⟩
  have I' : Inv X pins σ H _ := I.kept (h' := h') (t' := tk) (old_kept hk)
  have sz : (intItems xs).size = xs.size := by simp [intItems]
  rcases hP with ⟨h0, rfl⟩ | ⟨j, hj, hP⟩
  · rw [sz] at h0
    refine ⟨d, H, I', rd, q0 ?_⟩
    rw [List.map_eq_nil_iff, Array.toList_eq_nil_iff]
    exact Array.size_eq_zero_iff.mp h0
  · rw [sz] at hj
    obtain ⟨t, rfl⟩ := intItems_at hP
    obtain ⟨h1, h2⟩ := argBest_gt (numAt xs) j
    refine ⟨.int _, H, I', ⟨t, rfl⟩, q _ ?_ fun y hy => ?_⟩
    · rw [numAt_eq]
      exact PySem.getD_mem (by rw [List.length_map, Array.length_toList]; omega)
    · obtain ⟨i, hi, rfl⟩ := mem_getD hy
      rw [List.length_map, Array.length_toList] at hi
      rw [← numAt_eq]
      exact h2 i (by omega)
/-- *e in a display or a call, e a tuple or a list -/
def tStar (K : PySem.W.Frag) (te : TE) (t : TA) : TA := fun σ H Q => te σ H fun x H1 => ∃ a xs, x = .ref a ∧ (SqT K H1 a xs ∨ SqL K H1 a xs) ∧ t σ H1 fun ys H2 => Q (xs ++ ys) H2
theorem star_lst {pins : List (Addr × Obj)} {σ : L2.St} {H : Hp} {s : Shared} {a : Addr} {xs : List V} {E : Value → Shared → Prop} {Q : List Value → Shared → Prop} (I : Inv X pins σ H s) (h : SqL X.K H a xs) (hQ : ∀ us s', Inv X pins σ H s' → Vals xs us → Q us s') :
    PySem.W.StarOf (model X.prog X.w) X.A E (.ref a) Q s := by
  obtain ⟨its, r, pl, hz⟩ := I.list h
  obtain ⟨o, n, ho, hc, _, hd⟩ := pl
  have hl := r.length
  unfold PySem.W.StarOf notIterableAtAll
  refine wpAny_bind (wpAny_specialOf (show s.TypeIs (.ref a) "list" from ⟨o, ho, hc⟩) PySem.F.slot_list_iter.lookup (wpAny_pure ⟨rfl, wpAny_collect_seq a (.inl rfl) ho hc hd (fun h' hk => ?_) (by rw [List.size_toArray]; omega)⟩))
  have e : its.toArray.toList = its := by simp
  rw [e]
  exact hQ its _ (I.kept (t' := s.toks) hk) r
theorem pa_star {e : Expr} {es : List Expr} {te : TE} {t : TA} {p : Pos} (he : PE X e te) (ht : PA X es t) (hs : starEach (.Starred e p :: es) X.env = (true, eval e X.env) :: starEach es X.env := by rfl) : PA X (.Starred e p :: es) (tStar X.K te t) := by
  refine ⟨fun pos pins s σ H Q I h => PySem.W.items_star (thn (he.run pins s σ H _ I h) fun v s1 hv => ?_) hs⟩
  obtain ⟨x, H1, I1, rx, a, xs, ex, hq, q⟩ := hv
  subst ex
  cases (show v = Value.ref a from rx)
  have fin : ∀ us s2, Inv X pins σ H1 s2 → Vals xs us → wpAny (model X.prog X.w) X.A (spliced (backTo pos (starEach es X.env))) (fun vs s₃ => AP X pins σ Q (us ++ vs) s₃) X.xe s2 := fun us s2 I2 r =>
    thn (ht.run pos pins s2 σ H1 _ I2 q) fun ws s3 hw => let ⟨ys, H3, I3, r3, q3⟩ := hw; ⟨xs ++ ys, H3, I3, r.append r3, q3⟩
  rcases hq with hq | hq
  · exact star_tup I1 hq fin
  · exact star_lst I1 hq fin
end
end Mo
set_option Elab.async false
set_option linter.all false
set_option maxRecDepth 100000
set_option maxHeartbeats 4000000
/-! super().__init__(..) in an ordinary class -/
namespace Mo
open PySem PySem.Spec PyProof.Rows L2
structure SScope (N P : List Str) (sc : Scope) : Prop where
  kind : sc.kind = .function
  co : sc.isCoroutine = false
  gen : sc.isGenerator = false
  nd : N.Nodup
  pre : N.take P.length = P
  par : ∀ x ∈ P, sc.names.lookup x = some .local
  nocell : ∀ y ∈ sc.names, y.2 ≠ .cell
  free : ∀ y ∈ sc.names, y.2 = .free → y.1 = "__class__"
  sup : sc.names.lookup ("super" : Str) = some .globalImplicit
  cls : sc.names.lookup ("__class__" : Str) = some .free
/-- the context of such a def's body -/
def cxS (CX : CXT) (P : Program) (w : World) (K : PySem.W.Frag) (mg : Str → Option Value) (base : Heap) (N : List Str) (qual : Str) (scope : Scope) (f : Addr) (cd : Value) (cc : Addr) (A : Around) (outer : List Env) (s : Shared) (H : Hp) (E : XK) : Cx where
  prog := P
  w := w
  K := K
  mg := mg
  base := base
  A := A.deeper (PySem.W.ksEnv qual scope s.heap.objs.size f cd cc)
  N := N
  s_0 := s
  H_0 := H
  env := PySem.W.ksEnv qual scope s.heap.objs.size f cd cc
  outer := outer
  stack := PySem.W.ksEnv qual scope s.heap.objs.size f cd cc :: outer
  ex := []
  calm := true
  fn := fun _ => false
  pn := []
  xe := fun e s' => wpAny (model P w) (A.deeper (PySem.W.ksEnv qual scope s.heap.objs.size f cd cc)) (leaving (PySem.W.ksEnv qual scope s.heap.objs.size f cd cc) e) (fun _ s'' => CX outer H s E e s'') (fun e' s'' => CX outer H s E e' s'') s'
theorem lookup_rev_zip : ∀ {ps : List Str} {us : List Value} {i : Nat} {y : Str} {u : Value}, ps.Nodup → ps[i]? = some y → us[i]? = some u → (ps.zip us).reverse.lookup y = some u := by
  intro ps
  induction ps with
  | nil =>
    intro us i y u _ h _
    simp at h
  | cons p ps ih =>
    intro us i y u nd h1 h2
    cases us with
    | nil => simp at h2
    | cons v us =>
      have ndp := List.nodup_cons.mp nd
      rw [List.zip_cons_cons, List.reverse_cons, List.lookup_append]
      cases i with
      | zero =>
        simp at h1 h2
        subst h1 h2
        have e : (ps.zip us).reverse.lookup p = none := by
          rw [List.lookup_eq_none_iff]
          intro q hq
          have hq := List.mem_reverse.mp hq
          have hm := (List.of_mem_zip (show (q.1, q.2) ∈ ps.zip us from hq)).1
          have hne : p ≠ q.1 := by
            intro z
            rw [z] at ndp
            exact ndp.1 hm
          simp [hne]
        rw [e]
        simp
      | succ i =>
        rw [ih ndp.2 (by simpa using h1) (by simpa using h2)]
        rfl
theorem inv_startS {CX : CXT} {P : Program} {w : World} {K : PySem.W.Frag} {mg : Str → Option Value} {base : Heap} {N ps : List Str} {qual : Str} {scope : Scope} {f cc : Addr} {cd : Value} {A : Around} {outer : List Env} {s : Shared} {h₀ : Heap} {tk : Nat} {H : Hp} {E : XK} {us : List Value} {vs : List V}
    {oC : Obj} {cv : Option Value} (S : SScope N ps scope) (hd : A.handled = none) (e0 : Env0 P w K mg base A outer s H) (hl : vs.length = ps.length) (r : Vals vs us) (hcc : K.lookup cc = some oC) (hcv : oC.data = .cell cv)
    (hns : h₀.Ns s.heap.objs.size (fun x => (ps.zip us).reverse.lookup x)) (hk : ∀ b o, s.heap.get? b = some o → h₀.get? b = some o) :
    Inv (cxS CX P w K mg base N qual scope f cd cc A outer s H E) [] (start N vs) H { s with heap := h₀, toks := tk } := by
  have hpl : ps.length ≤ N.length := by have := congrArg List.length S.pre; rw [List.length_take] at this; omega
  have noA : ∀ b : Addr, b ∉ (cxS CX P w K mg base N qual scope f cd cc A outer s H E).ex := fun b z => absurd (show b ∈ ([] : List Addr) from z) (by simp)
  have hb := e0.mod.kin cc oC hcc
  have one : ∀ x c, [(("__class__" : Str), cc)].lookup x = some c → x = "__class__" ∧ c = cc := by
    intro x c h
    simp only [List.lookup_cons, List.lookup_nil] at h
    split at h
    · rename_i e
      cases h
      exact ⟨by simpa using e, rfl⟩
    · cases h
  refine ⟨⟨e0.mod, S.kind, rfl, rfl, Nat.le_refl _, fun y z c h1 h2 => ?_, fun y hy => ?_, (fun y c h => absurd (show false = true from h) Bool.false_ne_true), fun _ => hd, Around.frames_deeper e0.frames, .inr ⟨rfl, rfl⟩, fun b z => absurd z (noA b), e0.bs, e0.bsz, fun b _ _ => noA b, fun b z => absurd z (noA b), e0.funs, e0.frf⟩,
    rfl, e0.bare, Un.kept hk, ⟨_, hns, fun i y v h1 h2 h3 => ?_⟩, fun y c h => ?_, e0.hok.fresh (Nat.le_refl _), fun y c h => ?_, fun p hp => absurd (show p ∈ ([] : List (Addr × Obj)) from hp) (by simp), e0.hok.kept hk, ?_⟩
  · rw [(one y c h1).1, (one z c h2).1]
  · have hy : scope.names.lookup y = some .cell ∨ scope.names.lookup y = some .free := hy
    rcases hy with hy | hy
    · exact absurd rfl (S.nocell _ (PySem.mem_of_lookup hy))
    · have e := S.free _ (PySem.mem_of_lookup hy) rfl
      simp only at e
      subst e
      exact ⟨cc, rfl⟩
  · have hi : i < vs.length := by
      unfold L2.start at h2
      by_cases hi : i < vs.length
      · exact hi
      · rw [List.getElem?_append_right (by simpa using hi)] at h2
        rw [List.getElem?_replicate] at h2
        split at h2 <;> cases h2
    have ha : vs[i]? = some v := by
      unfold L2.start at h2
      rw [List.getElem?_append_left (by simpa using hi), List.getElem?_map] at h2
      cases e : vs[i]? with
      | none => rw [e] at h2; cases h2
      | some a => rw [e] at h2; cases h2; rfl
    obtain ⟨u, hu, rv⟩ := r.get ha
    have hp : ps[i]? = some y := by
      rw [← S.pre, List.getElem?_take_of_lt (by omega)]; exact h1
    have ndP : ps.Nodup := by rw [← S.pre]; exact S.nd.sublist (List.take_sublist _ _)
    exact ⟨u, rv, .inl ⟨S.par y (List.mem_of_getElem? hp), lookup_rev_zip ndP hp hu⟩⟩
  · obtain ⟨rfl, rfl⟩ := one y c h
    exact ⟨cv, oC, hk _ _ (e0.bs _ _ hb).1, hcv⟩
  · obtain ⟨rfl, rfl⟩ := one y c h
    exact (e0.bs _ _ hb).2
  · unfold L2.start
    show _ = N.length
    rw [List.length_append, List.length_map, List.length_replicate]
    omega
/-- statements of a def's body, run at the def's own place -/
def PSA (X : Cx) (b : List Stmt) (st : List Stmt) (t : TS) : Prop :=
  ∀ (pins : List (Addr × Obj)) (s : Shared) (σ : L2.St) (H : Hp) (D : Ends), Inv X pins σ H s → t D σ H → PySem.wpAt (model X.prog X.w) X.A (.func b X.env) (execs st X.env) (SP X pins D) X.xe s
section
variable {X : Cx} {b : List Stmt} {st : Stmt} {rest : List Stmt} {t u : TS}
theorem psa_any {l : List Stmt} (h : PSs X l t) : PSA X b l t := fun pins s σ H D I q => PySem.wpAt_of_wpAny (h.run pins s σ H D I q)
theorem psa_cons (h1 : PS X st t) (h2 : PSA X b rest u) : PSA X b (st :: rest) (tSeq t u) := by
  intro pins s σ H D I h
  refine PySem.ks_wpAt_execs_cons (PySem.wpAt_of_wpAny (thn (h1.run pins s σ H { D with nx := u D } I h) fun f s1 q => ?_))
  cases f with
  | next =>
    obtain ⟨σ', H', I', q⟩ := q
    exact h2 pins s1 σ' H' D I' q
  | ret v => exact q
  | brk => exact q
  | cont => exact q
/-- super().__init__(..): the next __init__ behind D -/
def sSuper (K : PySem.W.Frag) (D f2 : Addr) (sp : Sp) (E : XK) (t : TA) (u : TS) : TS := fun Dn σ H => ∃ (a C dx : Addr) (fs : List (Str × V)), σ[0]? = some (some (.ref a)) ∧ H a = some (.ins C dx fs) ∧ PySem.W.mroIn K C (.ref D) = some true ∧
  PySem.W.ks_superIn K C D "__init__" = some (some (.ref f2)) ∧ ∀ q, H q = none → t σ (upd H q (.met f2 a)) fun vs H1 => H1 q = some (.met f2 a) ∧ sp (.ref a :: vs) H1 (fun _ H2 => u Dn σ H2) E
theorem psa_super {p0 p1 apos pos pos2 : Pos} {e : Expr} {es : List Expr} {t : TA} {CX : CXT} {k : Nat} {f f2 cc cda D : Addr} {sp : Sp} {E : XK} {oc : Value} {od : Option Addr} {fd : FuncData} {osl : Array (Option Value)} {ar : Arg} {o2 oC : Obj} {vs : Array Value} {file : Str} {tf : Tok} {cdD : ClassData} {pl : Sem Bool}
    (F : FnR X.prog X.w X.K X.mg X.base CX k f2 sp) (hr : Room k X.A) (hx : Passes CX X E) (ha : PA X (e :: es) t) (h2 : PSA X b rest u)
    (hfu : X.env.func = some f) (hco : X.env.code = .ref cda) (hcl : X.env.cells.lookup ("__class__" : Str) = some cc) (hks : X.env.scope.names.lookup ("super" : Str) = some .globalImplicit) (hkc : X.env.scope.names.lookup ("__class__" : Str) = some .free)
    (hf : X.K.lookup f = some ⟨oc, od, .func fd, osl⟩) (hp : (fd.params.posonlyargs ++ fd.params.args).head? = some ar) (hN : X.N[0]? = some ar.arg) (hka : X.env.scope.names.lookup ar.arg = some .local)
    (hcode : X.K.lookup cda = some o2) (hoc : o2.data = .fields vs) (hvs : vs[2]? = some (.str file tf)) (hfile : ((X.prog.main.file : Str) == file) = true) (htop : (X.prog.main.scope.names.lookup ("super" : Str)).isSome = false)
    (hcell : X.K.lookup cc = some oC) (hcv : oC.data = .cell (some (.ref D))) (hD : PySem.W.clsIn X.K D = some cdD) (hsm : X.mg "super" = none) (hop : PySem.W.nsIn X.K cStatics "thirdparty.any" = some none)
    (hf2 : PySem.W.fnIn X.K f2 = true) (hft : PySem.W.typeIn X.K (.ref f2) = some (.type "function"))
    (hi : interactive X.env = false := by rfl) (hs : swapsWith (.Call (.Attribute (.Call (.Name "super" p0) [] [] p1) "__init__" apos) (e :: es) [] pos) none pos2.line X.env = pure false := by rfl)
    (he : eval (.Call (.Attribute (.Call (.Name "super" p0) [] [] p1) "__init__" apos) (e :: es) [] pos) X.env = (do
      let ov ← attributeBase (.Call (.Name "super" p0) [] [] p1) "__init__" X.env (eval (.Call (.Name "super" p0) [] [] p1) X.env)
      standAt apos.atName
      let (f, first) ← holding [ov] (getMethod ov "__init__" pl)
      callWith pos f first (backTo pos (starEach (e :: es) X.env)) []) := by rfl)
    (hst : starEach (e :: es) X.env = (false, eval e X.env) :: starEach es X.env := by rfl) (hpl : (backTo pos (starEach es X.env)).any (·.1) = false := by rfl) :
    PSA X b (.Expr (.Call (.Attribute (.Call (.Name "super" p0) [] [] p1) "__init__" apos) (e :: es) [] pos) pos2 :: rest) (sSuper X.K D f2 sp E t u) := by
  intro pins s σ H Dn I h
  obtain ⟨a, C, dx, fs, hσ, hA, hsub, hsup, h⟩ := h
  obtain ⟨m, ns, loc⟩ := I.loc
  obtain ⟨w0, rw0, lk⟩ := loc 0 ar.arg (.ref a) hN hσ (.inl hka)
  cases (show w0 = Value.ref a from rw0)
  have hv : m ar.arg = some (.ref a) := by
    rcases lk with ⟨_, q⟩ | ⟨q, _⟩
    · exact q
    · exfalso
      have hka : X.env.kindOf ar.arg = some .local := hka
      rw [hka] at q
      rcases q with q | q <;> cases q
  obtain ⟨mA, O, _⟩ := ins_get I.hok hA
  obtain ⟨od', J, _⟩ := O.look
  have KX : X.K.In s.heap := I.kIn
  refine PySem.ks_wpAt_execs_cons (PySem.ks_wpAt_Expr_any (PySem.ks_wpAt_MethodCall (pl := pl) ?_ he) hi hs)
  refine PySem.ks_wpAt_super_base (env := X.env) hks hkc (by decide) hfu (KX _ _ hf) rfl hp hco (KX _ _ hcode) hoc hvs hfile htop ?_
  obtain ⟨mb, g1, g2⟩ := I.mod.blt
  refine PySem.W.ks_loadName_global I.ok.kind hks (Calls.loadGlobal_builtin (by rw [I.ok.glob]; exact I.mod.glob.keeps I.bk) hsm (by rw [I.ok.blt]; exact g1.keeps I.bk) ((g2 "super" (by decide)).trans (show bootBuiltins "super" = some (.type "super") by decide +kernel)) ⟨rfl, ?_⟩)
  refine wpAny_loadName_free I.ok.kind hkc hcl ⟨_, KX _ _ hcell, hcv⟩ ?_
  refine wpAny_loadName_local I.ok.kind hka ns hv ?_
  obtain ⟨oD, hD1, hD2⟩ : ∃ oD, s.heap.get? D = some oD ∧ oD.data = .cls cdD := by
    unfold PySem.W.clsIn at hD
    split at hD
    · rename_i c d cd' sl ho
      cases hD
      exact ⟨_, KX _ _ ho, rfl⟩
    · cases hD
  obtain ⟨hh, gg, dd, tk, os⟩ := s
  refine PySem.ks_wpAny_isType_cls hD1 hD2 ⟨rfl, ?_⟩
  refine PySem.ks_wpAny_call_super hD1 hD2 J.at_ J.cls (fun c e => ?_) (PySem.W.looks_mroIn KX hsub) (fun h' e1 k1 => ?_)
  · have := J.no
    unfold PySem.W.notCls at this
    rw [e] at this
    exact Bool.noConfusion this
  have I1 : Inv X pins σ H ⟨h', gg, dd, tk, os⟩ := I.kept (t' := tk) k1
  have KX1 : X.K.In h' := I1.kIn
  obtain ⟨mA1, O1, _⟩ := ins_get I1.hok hA
  obtain ⟨od1, J1, _⟩ := O1.look
  cases hc : PySem.W.clsIn X.K C with
  | none =>
    unfold PySem.W.ks_superIn at hsup
    rw [hc] at hsup
    cases hsup
  | some cd =>
    unfold PySem.W.ks_superIn at hsup
    rw [hc] at hsup
    obtain ⟨of, hof, hofc⟩ : ∃ of, h'.get? f2 = some of ∧ of.cls = .type "function" := by
      have ht' : (X.K.lookup f2).map (·.cls) = some (.type "function") := hft
      cases z : X.K.lookup f2 with
      | none => rw [z] at ht'; cases ht'
      | some of => rw [z] at ht'; exact ⟨of, KX1 _ _ z, Option.some.inj ht'⟩
    refine PySem.ks_wpAny_getMethod_super e1 (PySem.W.looks_opaque KX1 hop) (l₀ := cd.mro) ?_ rfl KX1 hsup hof hofc (PySem.W.ks_ne KX1 J1 hc) (by decide) ?_
    · exact fun A Q E s k q => wpAny_bind ((PySem.W.looks_clsIn KX1 hc) A _ E s k (wpAny_pure q))
    have hq0 : H h'.objs.size = none := I1.hok.fresh (Nat.le_refl _)
    have I2 : Inv X pins σ (upd H h'.objs.size (.met f2 a)) ⟨h'.push (PySem.W.methodObj (.ref f2) (.ref a)), gg, dd, tk + 1, os⟩ :=
      I1.laid (t' := tk + 1) (a := h'.objs.size) (o := .met f2 a) (fun b u z => Heap.get?_push_of_some _ z) (Nat.le_refl _) (show (h'.push (PySem.W.methodObj (.ref f2) (.ref a))).get? h'.objs.size = some (PySem.W.methodObj (.ref f2) (.ref a)) from Heap.get?_push_size h' rfl)
    have hA2 := ha.run pos pins _ σ _ _ I2 (h h'.objs.size hq0)
    show wpAny (model X.prog X.w) X.A (callWith pos (.ref h'.objs.size) [] (backTo pos (starEach (e :: es) X.env)) []) _ _ _
    rw [hst] at hA2 ⊢
    refine callwith_met (X := X) (g := f2) (a := a) (by show ((false || (backTo pos (starEach es X.env)).any (·.1)) || false) = false; rw [hpl]; rfl) hf2 (Calls.evalArgs_plain ?_)
    refine thn hA2 fun us s3 ⟨vs3, H3, I3, r3, hm3, q3⟩ => ⟨met_P I3 hm3, ?_⟩
    refine wpAny_call (PySem.W.method_call (met_P I3 hm3).1 (codeAny_mono (run_fnR (us := .ref a :: us) (vs := .ref a :: vs3) F hr hx I3 (.cons rfl r3) q3) fun r s' hr' => ?_))
    match r, hr' with
    | .error e, hr' => exact hr'
    | .ok (.ret v), hr' =>
      obtain ⟨v', H', I', rv, q⟩ := hr'
      exact h2 pins s' σ H' Dn I' q
    | .ok .next, hr' => exact hr'.elim
    | .ok .brk, hr' => exact hr'.elim
    | .ok .cont, hr' => exact hr'.elim
end
/-- THE RULE: a def that says super(), by its body -/
theorem fnS_of {CX : CXT} {P : Program} {w : World} {K : PySem.W.Frag} {mg : Str → Option Value} {base : Heap} {k : Nat} {f cc : Addr} {name qual : Str} {params : Arguments} {body : List Stmt} {scope : Scope}
    {dV kV doc pm cdv ct oc : Value} {an od : Option Addr} {osl : Array (Option Value)} {N ps : List Str} {sp : Sp} {oC : Obj} {cv : Option Value}
    (lk : K.lookup f = some ⟨oc, od, .func (PySem.W.ksFn name qual params body scope dV kV doc pm an cdv ct cc), osl⟩) (hcd : PySem.W.codeIn K cdv qual = true) (hcc : K.lookup cc = some oC) (hcv : oC.data = .cell cv)
    (S : SScope N ps scope) (len : ∀ vs H Q E, sp vs H Q E → vs.length = ps.length)
    (hb : ∀ (A : Around) (outer : List Env) (s : Shared) (H : Hp) (vs : List V) (Q : VK) (E : XK), Room k (A.deeper (PySem.W.ksEnv qual scope s.heap.objs.size f cdv cc)) → sp vs H Q E →
      ∃ t, PSA (cxS CX P w K mg base N qual scope f cdv cc A outer s H E) body body t ∧ t { nx := fun _ H' => Q .non H', rt := Q } (L2.start N vs) H) :
    FnOk P w K mg base CX (k + 1) f (PySem.W.ksFn name qual params body scope dV kV doc pm an cdv ct cc) ps sp := by
  refine ⟨len, fun A outer s H args us vs Q E hr e0 bnd rel wish => ?_⟩
  have okK : K.In s.heap := e0.mod.kin.keeps fun b o e => (e0.bs b o e).1
  have okL : s.heap.NoLimit := e0.mod.nolimit.keeps fun b o e => (e0.bs b o e).1
  refine PySem.ks_codeAny_call_defAt (fd := PySem.W.ksFn name qual params body scope dV kV doc pm an cdv ct cc) (body := body) (binds := ps.zip us) hr.depth (okK _ _ lk) rfl okL (PySem.W.codeRec_of okK hcd) rfl bnd S.nocell (fun y hy => S.par y.1 (List.of_mem_zip (show (y.1, y.2) ∈ ps.zip us from hy)).1) (fun h₀ hns hk => ?_) S.co S.gen S.kind
  obtain ⟨t, ht, hq⟩ := hb A outer s H vs Q E (hr.deeper _) wish
  have J := inv_startS (CX := CX) (E := E) (qual := qual) (f := f) (cd := cdv) (tk := s.toks + (ps.zip us).length) S hr.hd e0 (len _ _ _ _ wish) rel hcc hcv hns hk
  refine PySem.ks_wpAt_mono (ht [] _ (L2.start N vs) H _ J hq) ?_ (fun e s' hs => hs)
  intro fl s' hs
  match fl, hs with
  | .ret u, ⟨v, σ', H', J', rv, q⟩ => exact ⟨v, H', J'.os, J'.bare, J'.base, J'.hok, rv, q⟩
  | .next, ⟨σ', H', J', q⟩ => exact ⟨V.non, H', J'.os, J'.bare, J'.base, J'.hok, rfl, q⟩
  | .brk, ⟨_, _, _, q⟩ => exact q.elim
  | .cont, ⟨_, _, _, q⟩ => exact q.elim
theorem PSA.nox {X : Cx} {b : List Stmt} {st : List Stmt} {t : TS} (h : PSA X.nox b st t) : PSA X b st t := fun pins s σ H D I q =>
  PySem.ks_wpAt_mono (h pins s σ H D (I.wish _) q) (fun _ _ q => q.unwish) fun _ _ z => False.elim z
/-- a method that says super(), as it stands behind the top; cc its cell, D its class -/
structure SFun (P : Program) (K : PySem.W.Frag) (x qual : Str) (st : Stmt) (f : Addr) (fd : FuncData) (cc D : Addr) : Prop where
  ex : ∃ (oc : Value) (od : Option Addr) (dV kV doc pm : Value) (an : Option Addr) (cda : Addr) (ct : Value) (osl : Array (Option Value)), fd = PySem.W.ksFn x qual (defArgs st) (defBody st) (defScope st) dV kV doc pm an (.ref cda) ct cc ∧
    K.lookup f = some ⟨oc, od, .func fd, osl⟩ ∧ PySem.W.codeIn K (.ref cda) qual = true ∧ ∃ o2 vs file tf, K.lookup cda = some o2 ∧ o2.data = .fields vs ∧ vs[2]? = some (.str file tf) ∧ ((P.main.file : Str) == file) = true
  cell : ∃ oC, K.lookup cc = some oC ∧ oC.data = .cell (some (.ref D))
  cls : ∃ cd, PySem.W.clsIn K D = some cd
  top : (P.main.scope.names.lookup ("super" : Str)).isSome = false
  opq : PySem.W.nsIn K cStatics "thirdparty.any" = some none
/-- what psa_super asks of the place -/
structure SuperAt (X : Cx) (D : Addr) : Prop where
  run : ∀ {p0 p1 apos pos pos2 : Pos} {e : Expr} {es : List Expr} {t : TA} {CX : CXT} {k : Nat} {f2 : Addr} {sp : Sp} {E : XK} {b rest : List Stmt} {u : TS} {pl : Sem Bool}
    (F : FnR X.prog X.w X.K X.mg X.base CX k f2 sp) (hr : Room k X.A) (hx : Passes CX X E) (ha : PA X (e :: es) t) (h2 : PSA X b rest u) (hsm : X.mg "super" = none)
    (hf2 : PySem.W.fnIn X.K f2 = true) (hft : PySem.W.typeIn X.K (.ref f2) = some (.type "function"))
    (hi : interactive X.env = false) (hs : swapsWith (.Call (.Attribute (.Call (.Name "super" p0) [] [] p1) "__init__" apos) (e :: es) [] pos) none pos2.line X.env = pure false)
    (he : eval (.Call (.Attribute (.Call (.Name "super" p0) [] [] p1) "__init__" apos) (e :: es) [] pos) X.env = (do
      let ov ← attributeBase (.Call (.Name "super" p0) [] [] p1) "__init__" X.env (eval (.Call (.Name "super" p0) [] [] p1) X.env)
      standAt apos.atName
      let (f, first) ← holding [ov] (getMethod ov "__init__" pl)
      callWith pos f first (backTo pos (starEach (e :: es) X.env)) []))
    (hst : starEach (e :: es) X.env = (false, eval e X.env) :: starEach es X.env) (hpl : (backTo pos (starEach es X.env)).any (·.1) = false),
    PSA X b (.Expr (.Call (.Attribute (.Call (.Name "super" p0) [] [] p1) "__init__" apos) (e :: es) [] pos) pos2 :: rest) (sSuper X.K D f2 sp E t u)
theorem psa_sup {X : Cx} {D : Addr} (S : SuperAt X D) {p0 p1 apos pos pos2 : Pos} {e : Expr} {es : List Expr} {t : TA} {CX : CXT} {k : Nat} {f2 : Addr} {sp : Sp} {E : XK} {b rest : List Stmt} {u : TS} {pl : Sem Bool}
    (F : FnR X.prog X.w X.K X.mg X.base CX k f2 sp) (hr : Room k X.A) (hx : Passes CX X E) (ha : PA X (e :: es) t) (h2 : PSA X b rest u) (hsm : X.mg "super" = none)
    (hf2 : PySem.W.fnIn X.K f2 = true) (hft : PySem.W.typeIn X.K (.ref f2) = some (.type "function"))
    (hi : interactive X.env = false := by rfl) (hs : swapsWith (.Call (.Attribute (.Call (.Name "super" p0) [] [] p1) "__init__" apos) (e :: es) [] pos) none pos2.line X.env = pure false := by rfl)
    (he : eval (.Call (.Attribute (.Call (.Name "super" p0) [] [] p1) "__init__" apos) (e :: es) [] pos) X.env = (do
      let ov ← attributeBase (.Call (.Name "super" p0) [] [] p1) "__init__" X.env (eval (.Call (.Name "super" p0) [] [] p1) X.env)
      standAt apos.atName
      let (f, first) ← holding [ov] (getMethod ov "__init__" pl)
      callWith pos f first (backTo pos (starEach (e :: es) X.env)) []) := by rfl)
    (hst : starEach (e :: es) X.env = (false, eval e X.env) :: starEach es X.env := by rfl) (hpl : (backTo pos (starEach es X.env)).any (·.1) = false := by rfl) :
    PSA X b (.Expr (.Call (.Attribute (.Call (.Name "super" p0) [] [] p1) "__init__" apos) (e :: es) [] pos) pos2 :: rest) (sSuper X.K D f2 sp E t u) := S.run F hr hx ha h2 hsm hf2 hft hi hs he hst hpl
/-- a method that says super() and lets no exception out -/
theorem SFun.ok {P : Program} {w : World} {K : PySem.W.Frag} {mg : Str → Option Value} {base : Heap} {x qual : Str} {st : Stmt} {f cc D : Addr} {fd : FuncData} {N ps : List Str} {k : Nat} {sp : Sp} {ar : Arg} (F : SFun P K x qual st f fd cc D) (S : SScope N ps (defScope st))
    (har : ((defArgs st).posonlyargs ++ (defArgs st).args).head? = some ar) (h0 : N[0]? = some ar.arg) (hl : (defScope st).names.lookup ar.arg = some .local) (len : ∀ vs H Q E, sp vs H Q E → vs.length = ps.length)
    (hb : ∀ (cdv : Value) (A : Around) (outer : List Env) (s : Shared) (H : Hp) (vs : List V) (Q : VK) (E : XK), Room k (A.deeper (PySem.W.ksEnv qual (defScope st) s.heap.objs.size f cdv cc)) →
      SuperAt (cxS CX0 P w K mg base N qual (defScope st) f cdv cc A outer s H E).nox D → sp vs H Q E →
      ∃ t, PSA (cxS CX0 P w K mg base N qual (defScope st) f cdv cc A outer s H E).nox (defBody st) (defBody st) t ∧ t { nx := fun _ H' => Q .non H', rt := Q } (L2.start N vs) H) :
    FnOk P w K mg base CX0 (k + 1) f fd ps sp := by
  obtain ⟨oc, od, dV, kV, doc, pm, an, cda, ct, osl, rfl, lk, hcd, o2, vs2, file, tf, h1, h2, h3, h4⟩ := F.ex
  obtain ⟨oC, c1, c2⟩ := F.cell
  obtain ⟨cdD, hD⟩ := F.cls
  refine fnS_of lk hcd c1 c2 S len ?_
  intro A outer s H vs Q E hr hsp
  obtain ⟨t, h, q⟩ := hb (.ref cda) A outer s H vs Q E hr ⟨fun F2 hr2 hx ha hu hsm hf2 hft hi hs he hst hpl => psa_super F2 hr2 hx ha hu rfl rfl rfl S.sup S.cls lk har h0 hl h1 h2 h3 h4 F.top c1 c2 hD hsm F.opq hf2 hft hi hs he hst hpl⟩ hsp
  exact ⟨t, h.nox, q⟩
end Mo
set_option Elab.async false
set_option linter.all false
set_option maxRecDepth 100000
set_option maxHeartbeats 4000000
/-! own classes in a family: what holds of each class of it -/
namespace Mo
open PySem PySem.Spec PyProof.Rows L2
theorem kit_of_subR {K : PySem.W.Frag} {C : Addr} {t : Value} {b : Bool} (ci : PySem.W.isClsIn K C = true) (tc : PySem.W.typeIn K (.ref C) = some (.type "type")) (sb : PySem.W.subIn K t (.ref C) = some b) (hne : (t == Value.ref C) = false) : PySem.W.kitOne K t (.ref C) = some b := by
  unfold PySem.W.kitOne
  rw [hne, if_neg Bool.false_ne_true]
  show (if ((PySem.W.clsIn K C).isSome && PySem.W.typeIn K (.ref C) == some (.type "type")) = true then PySem.W.subIn K t (.ref C) else none) = some b
  rw [tc, show (PySem.W.clsIn K C).isSome = true from ci]
  exact sb
/-- what is asked of each class of a family -/
structure FamC (K : PySem.W.Frag) (C : Addr) (attrs : List Str) : Prop where
  cl : Cls K C
  mo : PySem.W.mroIn K C (.type "object") = some true
  na : ∀ f ∈ attrs, NoAttr K C f
  ty : ∀ (H : Hp) (a dx : Addr) (fs : List (Str × V)), H a = some (.ins C dx fs) → TyX K H (.ref a) (.ref C)
  ne : PySem.W.findIn K (.ref C) "__ne__" = some (some (.builtin "object.__ne__"))
  nf7 : ∀ n : Ty7, PySem.W.notFirst K C (.type n.nm) = true
  ki7 : ∀ n : Ty7, PySem.W.kitOne K (.type n.nm) (.ref C) = some false
  ci : PySem.W.isClsIn K C = true
  tc : PySem.W.typeIn K (.ref C) = some (.type "type")
def seven : List String := ["NoneType", "bool", "int", "str", "tuple", "list", "dict"]
theorem nm_seven (n : Ty7) : n.nm ∈ seven := by cases n <;> decide
/-- all of it as one truth -/
def famChk (K : PySem.W.Frag) (C : Addr) (attrs : List Str) : Bool :=
  PySem.W.plainGet K C Str.empty && PySem.W.hasDictIn K C && PySem.W.plainOver K C && (PySem.W.findIn K (.ref C) "__setattr__" == some (some (.builtin "object.__setattr__"))) && (PySem.W.mroIn K C (.type "object") == some true) &&
  attrs.all (fun f => PySem.W.findIn K (.ref C) f == some none) && (PySem.W.findIn K (.ref C) "__ne__" == some (some (.builtin "object.__ne__"))) && (PySem.W.findIn K (.ref C) "__class__" == some (some (.builtin "object.__class__"))) &&
  seven.all (fun n => PySem.W.notFirst K C (.type n) && (PySem.W.subIn K (.type n) (.ref C) == some false)) && PySem.W.isClsIn K C && (PySem.W.typeIn K (.ref C) == some (.type "type"))
theorem famC_of {K : PySem.W.Frag} {C : Addr} {attrs : List Str} (h : famChk K C attrs = true) (xg : PySem.W.specialIn K (.builtin "object.__class__") "__get__" = some (some (.builtin "getset_descriptor.__get__"))) (xt : PySem.W.takesIn K (.builtin "object.__class__") = some true) : FamC K C attrs := by
  unfold famChk at h
  simp only [Bool.and_eq_true] at h
  obtain ⟨⟨⟨⟨⟨⟨⟨⟨⟨⟨h1, h2⟩, h3⟩, h4⟩, h5⟩, h6⟩, h7⟩, h8⟩, h9⟩, h10⟩, h11⟩ := h
  have h4 := beq_iff_eq.mp h4
  have h5 := beq_iff_eq.mp h5
  have h7 := beq_iff_eq.mp h7
  have h8 := beq_iff_eq.mp h8
  have h11 := beq_iff_eq.mp h11
  have c : Cls K C := ⟨h1, h2, h3, h4⟩
  have sv : ∀ n : Ty7, PySem.W.notFirst K C (.type n.nm) = true ∧ PySem.W.subIn K (.type n.nm) (.ref C) = some false := by
    intro n
    have := List.all_eq_true.mp h9 _ (nm_seven n)
    rw [Bool.and_eq_true] at this
    exact ⟨this.1, beq_iff_eq.mp this.2⟩
  exact ⟨c, h5, fun f hf => beq_iff_eq.mp (List.all_eq_true.mp h6 f hf), fun H a dx fs h => .base (.ins h c h8 xg xt h5), h7, fun n => (sv n).1, fun n => kit_of_sub h10 h11 (sv n).2, h10, h11⟩
/-- the classes of a family, one beside the other -/
def tabChk (K : PySem.W.Frag) (cs : List Addr) : Bool := (List.range cs.length).all fun i => (List.range cs.length).all fun j => (PySem.W.subIn K (.ref (cs.getD i 0)) (.ref (cs.getD j 0)) == some (i == j)) && ((cs.getD i 0 == cs.getD j 0) == (i == j)) && PySem.W.notFirst K (cs.getD i 0) (.ref (cs.getD j 0))
theorem tab_of {K : PySem.W.Frag} {cs : List Addr} {attrs : List Str} (h : tabChk K cs = true) (hc : ∀ C ∈ cs, FamC K C attrs) : ∀ (i j : Nat) (C D : Addr), cs[i]? = some C → cs[j]? = some D → PySem.W.kitOne K (.ref C) (.ref D) = some (i == j) ∧ PySem.W.notFirst K C (.ref D) = true := by
  intro i j C D hi hj
  have h := List.all_eq_true.mp (List.all_eq_true.mp h i (List.mem_range.mpr (List.getElem?_eq_some_iff.mp hi).1)) j (List.mem_range.mpr (List.getElem?_eq_some_iff.mp hj).1)
  have e1 : cs.getD i 0 = C := by simp [List.getD, hi]
  have e2 : cs.getD j 0 = D := by simp [List.getD, hj]
  rw [e1, e2] at h
  simp only [Bool.and_eq_true] at h
  obtain ⟨⟨h1, h2⟩, h3⟩ := h
  refine ⟨?_, h3⟩
  have h1 := beq_iff_eq.mp h1
  have h2 := beq_iff_eq.mp h2
  have fc := hc D (List.mem_of_getElem? hj)
  cases e : (i == j) with
  | true =>
    rw [e] at h2
    have : C = D := beq_iff_eq.mp h2
    subst this
    exact kit_self _
  | false =>
    rw [e] at h1 h2
    refine kit_of_subR fc.ci fc.tc h1 ?_
    cases z : (Value.ref C == Value.ref D) with
    | false => rfl
    | true =>
      have z := beq_iff_eq.mp z
      injection z with z
      subst z
      simp at h2
section
variable {X : Cx} {CX : CXT} {k : Nat} {f : Addr} {fd : FuncData} {ps : List Str} {sp : Sp} {E : XK} {CC : Addr → Prop}
/-- e.f, a property of each class of a family -/
def tPropF (CC : Addr → Prop) (sp : Sp) (E : XK) (ta : TE) : TE := fun σ H Q => ta σ H fun x H1 => ∃ a C dx fs, x = .ref a ∧ CC C ∧ H1 a = some (.ins C dx fs) ∧ sp [.ref a] H1 Q E
theorem pe_propF {e : Expr} {ta : TE} {n : Str} {p : Addr} {pos : Pos} (he : PE X e ta) (hC : ∀ C, CC C → Cls X.K C ∧ PropOf X.K C n p f) (F : FnOk X.prog X.w X.K X.mg X.base CX k f fd ps sp) (hr : Room (k + 1) X.A) (hb : Binds X.K fd ps []) (hx : Passes CX X.nox E)
    (hab : attributeBase e n X.env (eval e X.env) = eval e X.env := by rfl) : PE X (.Attribute e n pos) (tPropF CC sp E ta) := by
  refine ⟨fun pins s σ H Q I h => ?_⟩
  refine attr_of hab (thn (he.run pins s σ H _ I h) fun u s1 ⟨x, H1, I1, rx, a, C, dx, fs, ex, hc, ea, q⟩ => ?_)
  subst ex
  obtain rfl : u = Value.ref a := rx
  exact getprop_ok (dvs := []) (ds := []) I1 ea (hC C hc).1 (hC C hc).2 F hr hb .nil hx q
/-- repr(o) by the own __repr__ -/
theorem call_reprF (F : FnOk X.prog X.w X.K X.mg X.base CX k f fd ps sp) (hr : Room (k + 1) X.A) (S : ∀ C, CC C → Spc X.K C "__repr__" f) (hb : Binds X.K fd ps []) (hx : Passes CX X E) :
    CallR X (.builtin "repr") (fun xs H Q => ∃ a C dx fs, xs = [.ref a] ∧ CC C ∧ H a = some (.ins C dx fs) ∧ sp [.ref a] H (fun v H' => ∃ z : Str, v = .str z ∧ Q v H') E) := by
  intro pins s σ H xs us Q I r h
  obtain ⟨a, C, dx, fs, rfl, hc, ha, h⟩ := h
  exact call_reprO F hr (S C hc) hb hx pins s σ H _ us Q I r ⟨a, dx, fs, rfl, ha, h⟩
/-- str(o) by the own __str__ -/
theorem call_strF (F : FnOk X.prog X.w X.K X.mg X.base CX k f fd ps sp) (hr : Room (k + 2) X.A) (S : ∀ C, CC C → Spc X.K C "__str__" f) (hb : Binds X.K fd ps []) (hx : Passes CX X E) :
    CallR X (.type "str") (fun xs H Q => ∃ a C dx fs, xs = [.ref a] ∧ CC C ∧ H a = some (.ins C dx fs) ∧ sp [.ref a] H (fun v H' => ∃ z : Str, v = .str z ∧ Q v H') E) := by
  intro pins s σ H xs us Q I r h
  obtain ⟨a, C, dx, fs, rfl, hc, ha, h⟩ := h
  obtain ⟨u, rfl, ru⟩ := vals1 r
  cases ru
  obtain ⟨mA, J, _⟩ := ins_get I.hok ha
  obtain ⟨od, J, _⟩ := J.look
  have hr2 : Room k X.A.in1.in1 := (show Room (k + 1) X.A.in1 from Room.in1 hr).in1
  refine PySem.W.kso_call hr2.units0 I.kIn J (S C hc).at_ (S C hc).fn ?_
  refine wpAny_mono (run_under (A := X.A.in1.in1) (vs := [.ref a]) F hr2 rfl hb hx I (.cons rfl .nil) h) (fun v s' hv => ?_) fun _ _ e => e
  obtain ⟨v', H', I', rv, z, rfl, q⟩ := hv
  obtain ⟨t, rfl⟩ := rv
  exact ⟨.str z, H', I', ⟨t, rfl⟩, q⟩
def rEqF (K : PySem.W.Frag) (CC : Addr → Prop) (sp : Sp) (E : XK) (g : Bool → Bool) : R2 := fun x y H Q => ∃ a C dx fs t, x = .ref a ∧ CC C ∧ H a = some (.ins C dx fs) ∧ TyX K H y t ∧ PySem.W.notFirst K C t = true ∧
  sp [x, y] H (fun v H' => ∃ b, v = .bl b ∧ Q (.bl (g b)) H') E
theorem op_eqF (F : FnOk X.prog X.w X.K X.mg X.base CX k f fd ps sp) (hr : Room k X.A) (S : ∀ C, CC C → Spc X.K C "__eq__" f) (hb : Binds X.K fd ps []) (hx : Passes CX X E) : OpR X (compareOp .Eq) (rEqF X.K CC sp E id) := by
  intro pins s σ H x y v u Q I rx ry h
  obtain ⟨a, C, dx, fs, t, rfl, hc, h⟩ := h
  exact op_eqO F hr (S C hc) hb hx pins s σ H _ y v u Q I rx ry ⟨a, dx, fs, t, rfl, h⟩
theorem op_neF (F : FnOk X.prog X.w X.K X.mg X.base CX k f fd ps sp) (hr : Room (k + 1) X.A) (S : ∀ C, CC C → Spc X.K C "__eq__" f ∧ PySem.W.findIn X.K (.ref C) "__ne__" = some (some (.builtin "object.__ne__")) ∧ PySem.W.mroIn X.K C (.type "object") = some true)
    (hb : Binds X.K fd ps []) (hx : Passes CX X E) : OpR X (compareOp .NotEq) (rEqF X.K CC sp E not) := by
  intro pins s σ H x y v u Q I rx ry h
  obtain ⟨a, C, dx, fs, t, rfl, hc, h⟩ := h
  obtain ⟨h1, h2, h3⟩ := S C hc
  exact op_neO F hr h1 h2 h3 hb hx pins s σ H _ y v u Q I rx ry ⟨a, dx, fs, t, rfl, h⟩
end
/-! ### defaults -/
theorem bindsD {K : PySem.W.Frag} {fd : FuncData} {T : Addr} {o : Obj} {its : List Value} {m n j : Nat} {ps : List Str} (lT : K.lookup T = some o) (oT : o.data = .seq its.toArray m) (hn : n + (its.length - j) = ps.length)
    (h : ∀ us : List Value, us.length = n → ∃ k, bindArgs fd ⟨us, []⟩ = seqItems? (.ref T) >>= k ∧ k (some its.toArray) = pure (ps.zip (us ++ its.drop j))) : Binds K fd ps (its.drop j) := by
  intro s us X hlen
  have l2 : us.length = n := by
    rw [List.length_append, List.length_drop] at hlen
    omega
  obtain ⟨k, e1, e2⟩ := h us l2
  refine BindsTo.of_looks fun M => ?_
  rw [e1]
  exact looks_items X lT oT (.of_pure e2)
end Mo
namespace Mo
open PySem PySem.Spec PyProof.Rows L2
theorem sub_of {K : PySem.W.Frag} {C B : Addr} {attrs : List Str} (hb : famChk K B attrs = true) (h : ((PySem.W.mroIn K C (.ref B) == some true) && ((PySem.W.subIn K (.ref C) (.ref B) == some true) && (C != B))) = true) :
    PySem.W.mroIn K C (.ref B) = some true ∧ PySem.W.kitOne K (.ref C) (.ref B) = some true := by
  simp only [Bool.and_eq_true] at h
  obtain ⟨h1, h2, h3⟩ := h
  unfold famChk at hb
  simp only [Bool.and_eq_true] at hb
  refine ⟨beq_iff_eq.mp h1, kit_of_subR hb.1.2 (beq_iff_eq.mp hb.2) (beq_iff_eq.mp h2) ?_⟩
  cases z : (Value.ref C == Value.ref B) with
  | false => rfl
  | true =>
    have z := beq_iff_eq.mp z
    injection z with z
    subst z
    simp at h3
theorem cread_of {K : PySem.W.Frag} {C : Addr} (h : (PySem.W.readsIn K C (.type "type") && (PySem.W.specialIn K (.ref C) "__getattribute__" == some (some (.builtin "type.__getattribute__")))) = true) : ClX.CRead K C (.type "type") := by
  rw [Bool.and_eq_true] at h
  exact ⟨h.1, beq_iff_eq.mp h.2⟩
/-- a def or method with defaults, as it stands behind the top -/
structure FunV (K : PySem.W.Frag) (x qual : Str) (st : Stmt) (dV : Value) (f : Addr) (fd : FuncData) : Prop where
  ex : ∃ (oc : Value) (od : Option Addr) (kV doc pm : Value) (an : Option Addr) (cdv ct : Value) (osl : Array (Option Value)),
    fd = PySem.W.fnOf x qual (defArgs st) (defBody st) (defScope st) dV kV doc pm an cdv ct ∧ K.lookup f = some ⟨oc, od, .func fd, osl⟩ ∧ PySem.W.codeIn K cdv qual = true
  kp : PySem.W.keepIn K (.ref f) = true
theorem FunV.ok {P : Program} {w : World} {K : PySem.W.Frag} {mg : Str → Option Value} {base : Heap} {x qual : Str} {st : Stmt} {dV : Value} {f : Addr} {fd : FuncData} {N ps : List Str} {k : Nat} {sp : Sp} (F : FunV K x qual st dV f fd) (S : FnScope N ps (defScope st)) (len : ∀ vs H Q E, sp vs H Q E → vs.length = ps.length)
    (hbody : ∀ (cdv : Value) (A : Around) (outer : List Env) (s : Shared) (H : Hp) (vs : List V) (Q : VK) (E : XK), Room k (A.deeper (envOfC qual (defScope st) s.heap.objs.size f cdv)) → sp vs H Q E →
      ∃ t, PSs (cxOf CX0 P w K mg base N qual (defScope st) f cdv A outer s H E).nox (defBody st) t ∧ t { nx := fun _ H' => Q .non H', rt := Q } (L2.start N vs) H) : FnOk P w K mg base CX0 (k + 1) f fd ps sp := by
  obtain ⟨oc, od, kV, doc, pm, an, cdv, ct, osl, rfl, lk, hcd⟩ := F.ex
  refine fn_of lk hcd S len fun A outer s H vs Q E hr hsp => ?_
  obtain ⟨t, h, q⟩ := hbody cdv A outer s H vs Q E hr hsp
  exact ⟨t, h.nox, q⟩
/-- an expression that is never reached -/
theorem pe_never {X : Cx} {e : Expr} : PE X e (fun _ _ _ => False) := ⟨fun _ _ _ _ _ _ h => h.elim⟩
end Mo
namespace Mo
open PySem PySem.Spec PyProof.Rows L2
section
variable {J : It} {n : Nat} {G : Hp → Prop} {Y : Nat → Hp → V → Hp → Prop}
/-- the inner loop of a comprehension of two fors -/
theorem in_it (w : Walk J n G Y) {g : TG} {tt : TT} {te : TE} {vs : List Nat} {σ : L2.St} {H1 : Hp} {D : Addr} {Qd : Hp → Prop} (Pv : Nat → Hp → Prop) (h0 : Pv 0 H1) (hG : ∀ i H, i ≤ n → Pv i H → G H)
    (hs : ∀ i x H H', i < n → Pv i H → Y i H x H' → g x (wipe σ vs) H' fun σ2 H2 => wipe σ2 vs = wipe σ vs ∧ tt σ2 H2 fun b H3 =>
      if b = true then te σ2 H3 fun y H4 => ∃ acc, H4 D = some (.lst acc) ∧ acc.length < sizeLine ∧ Pv (i + 1) (upd H4 D (.lst (acc ++ [y]))) else Pv (i + 1) H3) (hd : ∀ H, Pv n H → Qd H) :
    ∃ W : Nat → Nat → Hp → Prop, (∃ m, W 0 m H1) ∧ ∀ i m H, W i m H →
      (J.stop i H ∧ Qd H) ∨ (J.go i H ∧ ∃ Nx : Hp → Prop, (∀ H', Nx H' → ∃ m', m' < m ∧ W (i + 1) m' H') ∧ ∀ x H', J.yld i H x H' → g x (wipe σ vs) H' fun σ2 H2 => wipe σ2 vs = wipe σ vs ∧ tt σ2 H2 fun b H3 =>
        if b = true then te σ2 H3 fun y H4 => ∃ acc, H4 D = some (.lst acc) ∧ acc.length < sizeLine ∧ Nx (upd H4 D (.lst (acc ++ [y]))) else Nx H3) := by
  refine ⟨fun i m H => m = n - i ∧ i ≤ n ∧ Pv i H, ⟨n, by simp, Nat.zero_le _, h0⟩, ?_⟩
  rintro i m H ⟨rfl, hi, p⟩
  have q := hG i H hi p
  by_cases hlt : i < n
  · refine .inr ⟨w.goes i H hlt q, Pv (i + 1), fun H' p' => ⟨n - (i + 1), by omega, rfl, hlt, p'⟩, fun x H' y => hs i x H H' hlt p (w.yields i H x H' hlt q y)⟩
  · have e : i = n := by omega
    subst e
    exact .inl ⟨w.stops H q, hd H p⟩
/-- the outer loop: Rd tells what follows a turn's target -/
theorem out_it (w : Walk J n G Y) {g : TG} {vs : List Nat} {σ : L2.St} {H1 : Hp} {D : Addr} {Qd : Hp → Prop} {Rd : (Hp → Prop) → L2.St → Hp → Prop} (Pv : Nat → Hp → Prop) (h0 : Pv 0 (upd H1 D (.lst []))) (hG : ∀ i H, i ≤ n → Pv i H → G H)
    (hs : ∀ i x H H', i < n → Pv i H → Y i H x H' → g x (wipe σ vs) H' (Rd (Pv (i + 1)))) (hd : ∀ H, Pv n H → Qd H) :
    ∃ W : Nat → Nat → Hp → Prop, (∃ m, W 0 m (upd H1 D (.lst []))) ∧ ∀ i m H, W i m H →
      (J.stop i H ∧ Qd H) ∨ (J.go i H ∧ ∃ Nx : Hp → Prop, (∀ H', Nx H' → ∃ m', m' < m ∧ W (i + 1) m' H') ∧ ∀ x H', J.yld i H x H' → g x (wipe σ vs) H' (Rd Nx)) := by
  refine ⟨fun i m H => m = n - i ∧ i ≤ n ∧ Pv i H, ⟨n, by simp, Nat.zero_le _, h0⟩, ?_⟩
  rintro i m H ⟨rfl, hi, p⟩
  have q := hG i H hi p
  by_cases hlt : i < n
  · refine .inr ⟨w.goes i H hlt q, Pv (i + 1), fun H' p' => ⟨n - (i + 1), by omega, rfl, hlt, p'⟩, fun x H' y => hs i x H H' hlt p (w.yields i H x H' hlt q y)⟩
  · have e : i = n := by omega
    subst e
    exact .inl ⟨w.stops H q, hd H p⟩
end
end Mo
namespace Mo
open PySem PySem.Spec PyProof.Rows L2
/-- an f-string, its reading by a name -/
def tFs (ts : List TE) : TE := fun σ H Q => tJs ts Str.empty σ H fun out H1 => Q (.str out) H1
theorem pe_fs {X : Cx} {v1 v2 : Expr} {rest : List Expr} {ts : List TE} {pos : Pos} (h : PJ X (v1 :: v2 :: rest) ts) : PE X (.JoinedStr (v1 :: v2 :: rest) pos) (tFs ts) := pe_joined h
end Mo
namespace Mo
open PySem PySem.Spec PyProof.Rows L2
/-- readings by a name, for rules within a comprehension's block -/
def rLenS (K : PySem.W.Frag) : List V → Hp → VK → Prop := fun xs H Q => ∃ p ys, xs = [.ref p] ∧ (SqL K H p ys ∨ SqT K H p ys) ∧ Q (.int ys.length) H
theorem Src.ne_strs {H : Hp} {a p : Addr} {zs : List Str} (s : Src H a) (h : H p = some (.lst (zs.map V.str))) : p ≠ a := by
  rintro rfl
  obtain ⟨x, y, c, e, _⟩ := s
  rw [h] at e
  cases zs with
  | nil => cases e
  | cons z zs => cases e
theorem Src.ne_refs {H : Hp} {a p : Addr} {zs : List Addr} (s : Src H a) (h : H p = some (.lst (zs.map V.ref))) : p ≠ a := by
  rintro rfl
  obtain ⟨x, y, c, e, _⟩ := s
  rw [h] at e
  cases zs with
  | nil => cases e
  | cons z zs => cases e
theorem Src.fresh {H : Hp} {a p : Addr} (s : Src H a) (h : H p = none) : p ≠ a := by
  rintro rfl
  obtain ⟨x, y, c, e, _⟩ := s
  rw [h] at e
  cases e
theorem Src.upd {H : Hp} {a p : Addr} {o : HO} (s : Src H a) (h : p ≠ a) : Src (L2.upd H p o) a := by
  obtain ⟨x, y, c, e, r⟩ := s
  exact ⟨x, y, c, by rw [upd_ne h.symm]; exact e, r⟩
theorem Src.lst {H : Hp} {a : Addr} (s : Src H a) : ∃ xs, H a = some (.lst xs) := let ⟨x, y, c, e, _⟩ := s; ⟨_, e⟩
theorem all_flat_strs (l : List Str) : (l.map V.str).all flatV = true := by
  rw [List.all_eq_true]
  intro x hx
  obtain ⟨z, _, rfl⟩ := List.mem_map.mp hx
  rfl
end Mo
namespace Mo
open PySem PySem.Spec PyProof.Rows L2
/-- parts of statements -/
def forBody (s : Stmt) : List Stmt := match s with
  | .For _ _ b _ _ => b
  | _ => []
def ifBody (s : Stmt) : List Stmt := match s with
  | .If _ b _ _ => b
  | _ => []
def ifElse (s : Stmt) : List Stmt := match s with
  | .If _ _ b _ => b
  | _ => []
abbrev stAt (l : List Stmt) (i : Nat) : Stmt := l.getD i (.Pass ⟨0, 0, 0, 0⟩)
end Mo
set_option Elab.async false
set_option linter.all false
set_option maxRecDepth 100000
set_option maxHeartbeats 4000000
namespace K03
open PySem PySem.Spec PyProof.Rows L2 Mo
def P : Program := PySem.Challenge.pw_momentcalls_k03_statements_of_one_line
def topS (i : Nat) : Stmt := PySem.Challenge.pw_momentcalls_k03_statements_of_one_line.main.body.getD i (.Pass ⟨0, 0, 0, 0⟩)
abbrev st_is_name : Stmt := topS 15
abbrev nm_is_name : List Str := ["value", "sign"]
theorem sc_is_name : FnScope nm_is_name ["value"] (defScope st_is_name) := ⟨rfl, rfl, rfl, by decide +kernel, rfl, by decide +kernel, by decide +kernel⟩
abbrev st_is_operand : Stmt := topS 16
abbrev nm_is_operand : List Str := ["value"]
theorem sc_is_operand : FnScope nm_is_operand ["value"] (defScope st_is_operand) := ⟨rfl, rfl, rfl, by decide +kernel, rfl, by decide +kernel, by decide +kernel⟩
abbrev st_check_name : Stmt := topS 17
abbrev nm_check_name : List Str := ["value"]
theorem sc_check_name : FnScope nm_check_name ["value"] (defScope st_check_name) := ⟨rfl, rfl, rfl, by decide +kernel, rfl, by decide +kernel, by decide +kernel⟩
abbrev st_check_operand : Stmt := topS 18
abbrev nm_check_operand : List Str := ["value"]
theorem sc_check_operand : FnScope nm_check_operand ["value"] (defScope st_check_operand) := ⟨rfl, rfl, rfl, by decide +kernel, rfl, by decide +kernel, by decide +kernel⟩
abbrev st_Statement___init__ : Stmt := inClass (topS 21) 1
abbrev nm_Statement___init__ : List Str := ["self", "line", "mentioned", "body", "otherwise", "inside", "amount", "level", "part"]
theorem sc_Statement___init__ : FnScope nm_Statement___init__ ["self", "line", "mentioned", "body", "otherwise"] (defScope st_Statement___init__) := ⟨rfl, rfl, rfl, by decide +kernel, rfl, by decide +kernel, by decide +kernel⟩
abbrev st_Statement_amount : Stmt := inClass (topS 21) 2
abbrev nm_Statement_amount : List Str := ["self"]
theorem sc_Statement_amount : FnScope nm_Statement_amount ["self"] (defScope st_Statement_amount) := ⟨rfl, rfl, rfl, by decide +kernel, rfl, by decide +kernel, by decide +kernel⟩
abbrev st_Statement_level : Stmt := inClass (topS 21) 3
abbrev nm_Statement_level : List Str := ["self"]
theorem sc_Statement_level : FnScope nm_Statement_level ["self"] (defScope st_Statement_level) := ⟨rfl, rfl, rfl, by decide +kernel, rfl, by decide +kernel, by decide +kernel⟩
abbrev st_Statement___eq__ : Stmt := inClass (topS 21) 4
abbrev nm_Statement___eq__ : List Str := ["self", "other"]
theorem sc_Statement___eq__ : FnScope nm_Statement___eq__ ["self", "other"] (defScope st_Statement___eq__) := ⟨rfl, rfl, rfl, by decide +kernel, rfl, by decide +kernel, by decide +kernel⟩
abbrev st_Statement___str__ : Stmt := inClass (topS 21) 5
abbrev nm_Statement___str__ : List Str := ["self"]
theorem sc_Statement___str__ : FnScope nm_Statement___str__ ["self"] (defScope st_Statement___str__) := ⟨rfl, rfl, rfl, by decide +kernel, rfl, by decide +kernel, by decide +kernel⟩
abbrev st_Statement___repr__ : Stmt := inClass (topS 21) 6
abbrev nm_Statement___repr__ : List Str := ["self"]
theorem sc_Statement___repr__ : FnScope nm_Statement___repr__ ["self"] (defScope st_Statement___repr__) := ⟨rfl, rfl, rfl, by decide +kernel, rfl, by decide +kernel, by decide +kernel⟩
abbrev st_Look___init__ : Stmt := inClass (topS 22) 1
abbrev nm_Look___init__ : List Str := ["self", "cell", "into"]
theorem ss_Look___init__ : SScope nm_Look___init__ ["self", "cell", "into"] (defScope st_Look___init__) := ⟨rfl, rfl, rfl, by decide +kernel, rfl, by decide +kernel, by decide +kernel, by decide +kernel, rfl, rfl⟩
abbrev st_Put___init__ : Stmt := inClass (topS 23) 1
abbrev nm_Put___init__ : List Str := ["self", "cell", "operand"]
theorem ss_Put___init__ : SScope nm_Put___init__ ["self", "cell", "operand"] (defScope st_Put___init__) := ⟨rfl, rfl, rfl, by decide +kernel, rfl, by decide +kernel, by decide +kernel, by decide +kernel, rfl, rfl⟩
abbrev st_Swap___init__ : Stmt := inClass (topS 24) 1
abbrev nm_Swap___init__ : List Str := ["self", "cell", "operand", "into"]
theorem ss_Swap___init__ : SScope nm_Swap___init__ ["self", "cell", "operand", "into"] (defScope st_Swap___init__) := ⟨rfl, rfl, rfl, by decide +kernel, rfl, by decide +kernel, by decide +kernel, by decide +kernel, rfl, rfl⟩
abbrev st_Try___init__ : Stmt := inClass (topS 25) 1
abbrev nm_Try___init__ : List Str := ["self", "cell", "old", "new", "into"]
theorem ss_Try___init__ : SScope nm_Try___init__ ["self", "cell", "old", "new", "into"] (defScope st_Try___init__) := ⟨rfl, rfl, rfl, by decide +kernel, rfl, by decide +kernel, by decide +kernel, by decide +kernel, rfl, rfl⟩
abbrev st_Let___init__ : Stmt := inClass (topS 26) 1
abbrev nm_Let___init__ : List Str := ["self", "into", "operand"]
theorem ss_Let___init__ : SScope nm_Let___init__ ["self", "into", "operand"] (defScope st_Let___init__) := ⟨rfl, rfl, rfl, by decide +kernel, rfl, by decide +kernel, by decide +kernel, by decide +kernel, rfl, rfl⟩
abbrev st_Leave___init__ : Stmt := inClass (topS 29) 1
abbrev nm_Leave___init__ : List Str := ["self"]
theorem ss_Leave___init__ : SScope nm_Leave___init__ ["self"] (defScope st_Leave___init__) := ⟨rfl, rfl, rfl, by decide +kernel, rfl, by decide +kernel, by decide +kernel, by decide +kernel, rfl, rfl⟩
abbrev st_Return___init__ : Stmt := inClass (topS 30) 1
abbrev nm_Return___init__ : List Str := ["self", "operand"]
theorem ss_Return___init__ : SScope nm_Return___init__ ["self", "operand"] (defScope st_Return___init__) := ⟨rfl, rfl, rfl, by decide +kernel, rfl, by decide +kernel, by decide +kernel, by decide +kernel, rfl, rfl⟩
abbrev st_indented : Stmt := topS 32
abbrev nm_indented : List Str := ["body", "part", "row"]
theorem sc_indented : FnScope nm_indented ["body"] (defScope st_indented) := ⟨rfl, rfl, rfl, by decide +kernel, rfl, by decide +kernel, by decide +kernel⟩
abbrev st_law_number : Stmt := topS 37
abbrev nm_law_number : List Str := ["_law_numbers", "_law_k", "_law_seed", "_law_item"]
theorem sc_law_number : FnScope nm_law_number ["_law_numbers", "_law_k"] (defScope st_law_number) := ⟨rfl, rfl, rfl, by decide +kernel, rfl, by decide +kernel, by decide +kernel⟩
abbrev st_law_source : Stmt := topS 38
abbrev nm_law_source : List Str := ["_law_number_here", "_law_figures"]
theorem sc_law_source : FnScope nm_law_source ["_law_number_here"] (defScope st_law_source) := ⟨rfl, rfl, rfl, by decide +kernel, rfl, by decide +kernel, by decide +kernel⟩
abbrev st_law_take : Stmt := topS 39
abbrev nm_law_take : List Str := ["_law_source_here", "_law_many", "_law_seed", "_law_digit"]
theorem sc_law_take : FnScope nm_law_take ["_law_source_here", "_law_many"] (defScope st_law_take) := ⟨rfl, rfl, rfl, by decide +kernel, rfl, by decide +kernel, by decide +kernel⟩
abbrev st_law_word : Stmt := topS 40
abbrev nm_law_word : List Str := ["_law_source_here", "_law_words_here", "_law_letters", "_law_found", "_law_turn"]
theorem sc_law_word : FnScope nm_law_word ["_law_source_here"] (defScope st_law_word) := ⟨rfl, rfl, rfl, by decide +kernel, rfl, by decide +kernel, by decide +kernel⟩
abbrev st_law_words : Stmt := topS 41
abbrev nm_law_words : List Str := ["_law_source_here", "_law_many", "_law_found", "_law_turn", "_law_item", "_law_mate"]
theorem sc_law_words : FnScope nm_law_words ["_law_source_here", "_law_many"] (defScope st_law_words) := ⟨rfl, rfl, rfl, by decide +kernel, rfl, by decide +kernel, by decide +kernel⟩
abbrev st_law_head : Stmt := topS 42
abbrev nm_law_head : List Str := ["_law_tree"]
theorem sc_law_head : FnScope nm_law_head ["_law_tree"] (defScope st_law_head) := ⟨rfl, rfl, rfl, by decide +kernel, rfl, by decide +kernel, by decide +kernel⟩
abbrev st_law_made : Stmt := topS 44
abbrev nm_law_made : List Str := ["_law_source_here", "_law_tree", "_law_way", "_law_kind"]
theorem sc_law_made : FnScope nm_law_made ["_law_source_here", "_law_tree"] (defScope st_law_made) := ⟨rfl, rfl, rfl, by decide +kernel, rfl, by decide +kernel, by decide +kernel⟩
abbrev st_law_operand : Stmt := topS 46
abbrev nm_law_operand : List Str := ["_law_source_here", "_law_names", "_law_some"]
theorem sc_law_operand : FnScope nm_law_operand ["_law_source_here", "_law_names"] (defScope st_law_operand) := ⟨rfl, rfl, rfl, by decide +kernel, rfl, by decide +kernel, by decide +kernel⟩
abbrev st_law_trees : Stmt := topS 47
abbrev nm_law_trees : List Str := ["_law_source_here", "_law_names", "_law_some", "_law_first", "_law_second", "_law_third", "_law_fourth", "_law_found", "_law_turn"]
theorem sc_law_trees : FnScope nm_law_trees ["_law_source_here", "_law_names"] (defScope st_law_trees) := ⟨rfl, rfl, rfl, by decide +kernel, rfl, by decide +kernel, by decide +kernel⟩
abbrev st_law_sorts : Stmt := topS 48
abbrev nm_law_sorts : List Str := ["_law_thing", "_law_found"]
theorem sc_law_sorts : FnScope nm_law_sorts ["_law_thing"] (defScope st_law_sorts) := ⟨rfl, rfl, rfl, by decide +kernel, rfl, by decide +kernel, by decide +kernel⟩
abbrev st_law_is : Stmt := topS 49
abbrev nm_law_is : List Str := ["_law_thing", "_law_tree", "_law_k", "_law_line", "_law_told", "_law_odd", "_law_turn"]
theorem sc_law_is : FnScope nm_law_is ["_law_thing", "_law_tree", "_law_k"] (defScope st_law_is) := ⟨rfl, rfl, rfl, by decide +kernel, rfl, by decide +kernel, by decide +kernel⟩
abbrev st_law_right : Stmt := topS 50
abbrev nm_law_right : List Str := ["_law_source_here", "_law_names", "_law_trees_here", "_law_made_here", "_law_k", "_law_mates", "_law_heads", "_law_j", "_law_alike", "_law_tree"]
theorem sc_law_right : FnScope nm_law_right ["_law_source_here"] (defScope st_law_right) := ⟨rfl, rfl, rfl, by decide +kernel, rfl, by decide +kernel, by decide +kernel⟩
abbrev st_law : Stmt := topS 51
abbrev nm_law : List Str := ["_law_numbers", "_law_told", "_law_due", "_law_k"]
theorem sc_law : FnScope nm_law ["_law_numbers"] (defScope st_law) := ⟨rfl, rfl, rfl, by decide +kernel, rfl, by decide +kernel, by decide +kernel⟩
abbrev famAttrs : List Str := ["size", "mentioned", "body", "otherwise", "cell", "into", "rows", "operand", "old", "new", "left", "right"]
def kp_Look {α : Type} (us ws : List α) : List α := match us, ws with | [u], [w0, w1] => [u, w1, w0] | _, _ => []
theorem kp_Look_rel {vs : List V} {us : List Value} {zs : List V} {ws : List Value} (r : Vals vs us) (q : Vals zs ws) : Vals (kp_Look vs zs) (kp_Look us ws) := by
  match r with
  | .nil => exact .nil
  | .cons _ (.cons _ _) => exact .nil
  | .cons r0 .nil =>
    match q with
    | .nil => exact .nil
    | .cons _ (.nil) => exact .nil
    | .cons q0 (.cons q1 (.nil)) => exact .cons r0 (.cons q1 (.cons q0 (.nil)))
    | .cons _ (.cons _ (.cons _ (_))) => exact .nil
def kp_Put {α : Type} (us ws : List α) : List α := match us, ws with | [u], [w0, w1] => [u, w1, w0] | _, _ => []
theorem kp_Put_rel {vs : List V} {us : List Value} {zs : List V} {ws : List Value} (r : Vals vs us) (q : Vals zs ws) : Vals (kp_Put vs zs) (kp_Put us ws) := by
  match r with
  | .nil => exact .nil
  | .cons _ (.cons _ _) => exact .nil
  | .cons r0 .nil =>
    match q with
    | .nil => exact .nil
    | .cons _ (.nil) => exact .nil
    | .cons q0 (.cons q1 (.nil)) => exact .cons r0 (.cons q1 (.cons q0 (.nil)))
    | .cons _ (.cons _ (.cons _ (_))) => exact .nil
def kp_Swap {α : Type} (us ws : List α) : List α := match us, ws with | [u], [w0, w1, w2] => [u, w1, w2, w0] | _, _ => []
theorem kp_Swap_rel {vs : List V} {us : List Value} {zs : List V} {ws : List Value} (r : Vals vs us) (q : Vals zs ws) : Vals (kp_Swap vs zs) (kp_Swap us ws) := by
  match r with
  | .nil => exact .nil
  | .cons _ (.cons _ _) => exact .nil
  | .cons r0 .nil =>
    match q with
    | .nil => exact .nil
    | .cons _ (.nil) => exact .nil
    | .cons _ (.cons _ (.nil)) => exact .nil
    | .cons q0 (.cons q1 (.cons q2 (.nil))) => exact .cons r0 (.cons q1 (.cons q2 (.cons q0 (.nil))))
    | .cons _ (.cons _ (.cons _ (.cons _ (_)))) => exact .nil
def kp_Try {α : Type} (us ws : List α) : List α := match us, ws with | [u], [w0, w1, w2, w3] => [u, w3, w2, w1, w0] | _, _ => []
theorem kp_Try_rel {vs : List V} {us : List Value} {zs : List V} {ws : List Value} (r : Vals vs us) (q : Vals zs ws) : Vals (kp_Try vs zs) (kp_Try us ws) := by
  match r with
  | .nil => exact .nil
  | .cons _ (.cons _ _) => exact .nil
  | .cons r0 .nil =>
    match q with
    | .nil => exact .nil
    | .cons _ (.nil) => exact .nil
    | .cons _ (.cons _ (.nil)) => exact .nil
    | .cons _ (.cons _ (.cons _ (.nil))) => exact .nil
    | .cons q0 (.cons q1 (.cons q2 (.cons q3 (.nil)))) => exact .cons r0 (.cons q3 (.cons q2 (.cons q1 (.cons q0 (.nil)))))
    | .cons _ (.cons _ (.cons _ (.cons _ (.cons _ (_))))) => exact .nil
def kp_Let {α : Type} (us ws : List α) : List α := match us, ws with | [u], [w0, w1] => [u, w1, w0] | _, _ => []
theorem kp_Let_rel {vs : List V} {us : List Value} {zs : List V} {ws : List Value} (r : Vals vs us) (q : Vals zs ws) : Vals (kp_Let vs zs) (kp_Let us ws) := by
  match r with
  | .nil => exact .nil
  | .cons _ (.cons _ _) => exact .nil
  | .cons r0 .nil =>
    match q with
    | .nil => exact .nil
    | .cons _ (.nil) => exact .nil
    | .cons q0 (.cons q1 (.nil)) => exact .cons r0 (.cons q1 (.cons q0 (.nil)))
    | .cons _ (.cons _ (.cons _ (_))) => exact .nil
def kp_Return {α : Type} (us ws : List α) : List α := match us, ws with | [u], [w0] => [u, w0] | _, _ => []
theorem kp_Return_rel {vs : List V} {us : List Value} {zs : List V} {ws : List Value} (r : Vals vs us) (q : Vals zs ws) : Vals (kp_Return vs zs) (kp_Return us ws) := by
  match r with
  | .nil => exact .nil
  | .cons _ (.cons _ _) => exact .nil
  | .cons r0 .nil =>
    match q with
    | .nil => exact .nil
    | .cons q0 (.nil) => exact .cons r0 (.cons q0 (.nil))
    | .cons _ (.cons _ (_)) => exact .nil
structure Ads where
  t_MAX_STATEMENTS : Tok
  t_MAX_LEVEL : Tok
  t_LETTERS : Tok
  t_SIGNS : Tok
  t_NOTHING : Tok
  t_YES : Tok
  t_LONGEST : Tok
  c_Statement : Addr
  c_Look : Addr
  c_Put : Addr
  c_Swap : Addr
  c_Try : Addr
  c_Let : Addr
  c_If : Addr
  c_Loop : Addr
  c_Leave : Addr
  c_Return : Addr
  c_Joined : Addr
  a_is_name : Addr
  d_is_name : FuncData
  a_is_operand : Addr
  d_is_operand : FuncData
  a_check_name : Addr
  d_check_name : FuncData
  a_check_operand : Addr
  d_check_operand : FuncData
  a_Statement___init__ : Addr
  d_Statement___init__ : FuncData
  x_Statement___init___0 : Addr
  x_Statement___init___1 : Addr
  x_Statement___init___2 : Addr
  dt_Statement___init__ : Addr
  a_Statement_amount : Addr
  d_Statement_amount : FuncData
  a_Statement_level : Addr
  d_Statement_level : FuncData
  a_Statement___eq__ : Addr
  d_Statement___eq__ : FuncData
  a_Statement___str__ : Addr
  d_Statement___str__ : FuncData
  a_Statement___repr__ : Addr
  d_Statement___repr__ : FuncData
  a_Look___init__ : Addr
  d_Look___init__ : FuncData
  cc_Look___init__ : Addr
  a_Put___init__ : Addr
  d_Put___init__ : FuncData
  cc_Put___init__ : Addr
  a_Swap___init__ : Addr
  d_Swap___init__ : FuncData
  cc_Swap___init__ : Addr
  a_Try___init__ : Addr
  d_Try___init__ : FuncData
  cc_Try___init__ : Addr
  a_Let___init__ : Addr
  d_Let___init__ : FuncData
  cc_Let___init__ : Addr
  a_Leave___init__ : Addr
  d_Leave___init__ : FuncData
  cc_Leave___init__ : Addr
  a_Return___init__ : Addr
  d_Return___init__ : FuncData
  cc_Return___init__ : Addr
  a_indented : Addr
  d_indented : FuncData
  a_law_number : Addr
  d_law_number : FuncData
  a_law_source : Addr
  d_law_source : FuncData
  a_law_take : Addr
  d_law_take : FuncData
  a_law_word : Addr
  d_law_word : FuncData
  a_law_words : Addr
  d_law_words : FuncData
  a_law_head : Addr
  d_law_head : FuncData
  a_law_made : Addr
  d_law_made : FuncData
  a_law_operand : Addr
  d_law_operand : FuncData
  a_law_trees : Addr
  d_law_trees : FuncData
  a_law_sorts : Addr
  d_law_sorts : FuncData
  a_law_is : Addr
  d_law_is : FuncData
  a_law_right : Addr
  d_law_right : FuncData
  a_law : Addr
  d_law : FuncData
  p_Statement_amount : Addr
  p_Statement_level : Addr
def Ads.fam (A : Ads) : List Addr := [A.c_Look, A.c_Put, A.c_Swap, A.c_Try, A.c_Let, A.c_Leave, A.c_Return, A.c_If, A.c_Loop, A.c_Joined]
structure Txt (K : PySem.W.Frag) (mg : Str → Option Value) (A : Ads) : Prop where
  b_abs : mg "abs" = none
  b_all : mg "all" = none
  b_divmod : mg "divmod" = none
  b_int : mg "int" = none
  b_isinstance : mg "isinstance" = none
  b_len : mg "len" = none
  b_list : mg "list" = none
  b_max : mg "max" = none
  b_min : mg "min" = none
  b_property : mg "property" = none
  b_range : mg "range" = none
  b_repr : mg "repr" = none
  b_str : mg "str" = none
  b_sum : mg "sum" = none
  b_super : mg "super" = none
  c_MAX_STATEMENTS : mg "MAX_STATEMENTS" = some (.int (40) A.t_MAX_STATEMENTS)
  c_MAX_LEVEL : mg "MAX_LEVEL" = some (.int (5) A.t_MAX_LEVEL)
  c_LETTERS : mg "LETTERS" = some (.str "abcdefghijklmnopqrstuvwxyz" A.t_LETTERS)
  c_SIGNS : mg "SIGNS" = some (.str "abcdefghijklmnopqrstuvwxyz0123456789" A.t_SIGNS)
  c_NOTHING : mg "NOTHING" = some (.str "nothing" A.t_NOTHING)
  c_YES : mg "YES" = some (.str "yes" A.t_YES)
  c_LONGEST : mg "LONGEST" = some (.int (8) A.t_LONGEST)
  k_is_name : PySem.W.keepIn K (.ref A.a_is_name) = true
  f_is_name : Fun K "is_name" "is_name" st_is_name A.a_is_name A.d_is_name
  v_is_name : Binds K A.d_is_name ["value"] []
  m_is_name : mg "is_name" = some (.ref A.a_is_name)
  k_is_operand : PySem.W.keepIn K (.ref A.a_is_operand) = true
  f_is_operand : Fun K "is_operand" "is_operand" st_is_operand A.a_is_operand A.d_is_operand
  v_is_operand : Binds K A.d_is_operand ["value"] []
  m_is_operand : mg "is_operand" = some (.ref A.a_is_operand)
  k_check_name : PySem.W.keepIn K (.ref A.a_check_name) = true
  f_check_name : Fun K "check_name" "check_name" st_check_name A.a_check_name A.d_check_name
  v_check_name : Binds K A.d_check_name ["value"] []
  m_check_name : mg "check_name" = some (.ref A.a_check_name)
  k_check_operand : PySem.W.keepIn K (.ref A.a_check_operand) = true
  f_check_operand : Fun K "check_operand" "check_operand" st_check_operand A.a_check_operand A.d_check_operand
  v_check_operand : Binds K A.d_check_operand ["value"] []
  m_check_operand : mg "check_operand" = some (.ref A.a_check_operand)
  e_Statement___init___0 : ∀ H, SqT K H A.x_Statement___init___0 []
  t_Statement___init___0 : ∀ H, TyX K H (.ref A.x_Statement___init___0) (.type "tuple")
  e_Statement___init___1 : ∀ H, SqT K H A.x_Statement___init___1 []
  t_Statement___init___1 : ∀ H, TyX K H (.ref A.x_Statement___init___1) (.type "tuple")
  e_Statement___init___2 : ∀ H, SqT K H A.x_Statement___init___2 []
  t_Statement___init___2 : ∀ H, TyX K H (.ref A.x_Statement___init___2) (.type "tuple")
  k_Statement___init__ : PySem.W.keepIn K (.ref A.a_Statement___init__) = true
  f_Statement___init__ : FunV K "__init__" "Statement.__init__" st_Statement___init__ (.ref A.dt_Statement___init__) A.a_Statement___init__ A.d_Statement___init__
  vd_Statement___init___1 : Binds K A.d_Statement___init__ ["self", "line", "mentioned", "body", "otherwise"] [.ref A.x_Statement___init___0, .ref A.x_Statement___init___1, .ref A.x_Statement___init___2]
  vd_Statement___init___2 : Binds K A.d_Statement___init__ ["self", "line", "mentioned", "body", "otherwise"] [.ref A.x_Statement___init___1, .ref A.x_Statement___init___2]
  vd_Statement___init___3 : Binds K A.d_Statement___init__ ["self", "line", "mentioned", "body", "otherwise"] [.ref A.x_Statement___init___2]
  vd_Statement___init___4 : Binds K A.d_Statement___init__ ["self", "line", "mentioned", "body", "otherwise"] []
  fi_Statement___init__ : PySem.W.fnIn K A.a_Statement___init__ = true
  ft_Statement___init__ : PySem.W.typeIn K (.ref A.a_Statement___init__) = some (.type "function")
  k_Statement_amount : PySem.W.keepIn K (.ref A.a_Statement_amount) = true
  f_Statement_amount : Fun K "amount" "Statement.amount" st_Statement_amount A.a_Statement_amount A.d_Statement_amount
  v_Statement_amount : Binds K A.d_Statement_amount ["self"] []
  k_Statement_level : PySem.W.keepIn K (.ref A.a_Statement_level) = true
  f_Statement_level : Fun K "level" "Statement.level" st_Statement_level A.a_Statement_level A.d_Statement_level
  v_Statement_level : Binds K A.d_Statement_level ["self"] []
  k_Statement___eq__ : PySem.W.keepIn K (.ref A.a_Statement___eq__) = true
  f_Statement___eq__ : Fun K "__eq__" "Statement.__eq__" st_Statement___eq__ A.a_Statement___eq__ A.d_Statement___eq__
  v_Statement___eq__ : Binds K A.d_Statement___eq__ ["self", "other"] []
  k_Statement___str__ : PySem.W.keepIn K (.ref A.a_Statement___str__) = true
  f_Statement___str__ : Fun K "__str__" "Statement.__str__" st_Statement___str__ A.a_Statement___str__ A.d_Statement___str__
  v_Statement___str__ : Binds K A.d_Statement___str__ ["self"] []
  k_Statement___repr__ : PySem.W.keepIn K (.ref A.a_Statement___repr__) = true
  f_Statement___repr__ : Fun K "__repr__" "Statement.__repr__" st_Statement___repr__ A.a_Statement___repr__ A.d_Statement___repr__
  v_Statement___repr__ : Binds K A.d_Statement___repr__ ["self"] []
  k_Look___init__ : PySem.W.keepIn K (.ref A.a_Look___init__) = true
  f_Look___init__ : SFun P K "__init__" "Look.__init__" st_Look___init__ A.a_Look___init__ A.d_Look___init__ A.cc_Look___init__ A.c_Look
  v_Look___init__ : Binds K A.d_Look___init__ ["self", "cell", "into"] []
  k_Put___init__ : PySem.W.keepIn K (.ref A.a_Put___init__) = true
  f_Put___init__ : SFun P K "__init__" "Put.__init__" st_Put___init__ A.a_Put___init__ A.d_Put___init__ A.cc_Put___init__ A.c_Put
  v_Put___init__ : Binds K A.d_Put___init__ ["self", "cell", "operand"] []
  k_Swap___init__ : PySem.W.keepIn K (.ref A.a_Swap___init__) = true
  f_Swap___init__ : SFun P K "__init__" "Swap.__init__" st_Swap___init__ A.a_Swap___init__ A.d_Swap___init__ A.cc_Swap___init__ A.c_Swap
  v_Swap___init__ : Binds K A.d_Swap___init__ ["self", "cell", "operand", "into"] []
  k_Try___init__ : PySem.W.keepIn K (.ref A.a_Try___init__) = true
  f_Try___init__ : SFun P K "__init__" "Try.__init__" st_Try___init__ A.a_Try___init__ A.d_Try___init__ A.cc_Try___init__ A.c_Try
  v_Try___init__ : Binds K A.d_Try___init__ ["self", "cell", "old", "new", "into"] []
  k_Let___init__ : PySem.W.keepIn K (.ref A.a_Let___init__) = true
  f_Let___init__ : SFun P K "__init__" "Let.__init__" st_Let___init__ A.a_Let___init__ A.d_Let___init__ A.cc_Let___init__ A.c_Let
  v_Let___init__ : Binds K A.d_Let___init__ ["self", "into", "operand"] []
  k_Leave___init__ : PySem.W.keepIn K (.ref A.a_Leave___init__) = true
  f_Leave___init__ : SFun P K "__init__" "Leave.__init__" st_Leave___init__ A.a_Leave___init__ A.d_Leave___init__ A.cc_Leave___init__ A.c_Leave
  v_Leave___init__ : Binds K A.d_Leave___init__ ["self"] []
  k_Return___init__ : PySem.W.keepIn K (.ref A.a_Return___init__) = true
  f_Return___init__ : SFun P K "__init__" "Return.__init__" st_Return___init__ A.a_Return___init__ A.d_Return___init__ A.cc_Return___init__ A.c_Return
  v_Return___init__ : Binds K A.d_Return___init__ ["self", "operand"] []
  k_indented : PySem.W.keepIn K (.ref A.a_indented) = true
  f_indented : Fun K "indented" "indented" st_indented A.a_indented A.d_indented
  v_indented : Binds K A.d_indented ["body"] []
  m_indented : mg "indented" = some (.ref A.a_indented)
  k_law_number : PySem.W.keepIn K (.ref A.a_law_number) = true
  f_law_number : Fun K "_law_number" "_law_number" st_law_number A.a_law_number A.d_law_number
  v_law_number : Binds K A.d_law_number ["_law_numbers", "_law_k"] []
  m_law_number : mg "_law_number" = some (.ref A.a_law_number)
  k_law_source : PySem.W.keepIn K (.ref A.a_law_source) = true
  f_law_source : Fun K "_law_source" "_law_source" st_law_source A.a_law_source A.d_law_source
  v_law_source : Binds K A.d_law_source ["_law_number_here"] []
  m_law_source : mg "_law_source" = some (.ref A.a_law_source)
  k_law_take : PySem.W.keepIn K (.ref A.a_law_take) = true
  f_law_take : Fun K "_law_take" "_law_take" st_law_take A.a_law_take A.d_law_take
  v_law_take : Binds K A.d_law_take ["_law_source_here", "_law_many"] []
  m_law_take : mg "_law_take" = some (.ref A.a_law_take)
  k_law_word : PySem.W.keepIn K (.ref A.a_law_word) = true
  f_law_word : Fun K "_law_word" "_law_word" st_law_word A.a_law_word A.d_law_word
  v_law_word : Binds K A.d_law_word ["_law_source_here"] []
  m_law_word : mg "_law_word" = some (.ref A.a_law_word)
  k_law_words : PySem.W.keepIn K (.ref A.a_law_words) = true
  f_law_words : Fun K "_law_words" "_law_words" st_law_words A.a_law_words A.d_law_words
  v_law_words : Binds K A.d_law_words ["_law_source_here", "_law_many"] []
  m_law_words : mg "_law_words" = some (.ref A.a_law_words)
  k_law_head : PySem.W.keepIn K (.ref A.a_law_head) = true
  f_law_head : Fun K "_law_head" "_law_head" st_law_head A.a_law_head A.d_law_head
  v_law_head : Binds K A.d_law_head ["_law_tree"] []
  m_law_head : mg "_law_head" = some (.ref A.a_law_head)
  k_law_made : PySem.W.keepIn K (.ref A.a_law_made) = true
  f_law_made : Fun K "_law_made" "_law_made" st_law_made A.a_law_made A.d_law_made
  v_law_made : Binds K A.d_law_made ["_law_source_here", "_law_tree"] []
  m_law_made : mg "_law_made" = some (.ref A.a_law_made)
  k_law_operand : PySem.W.keepIn K (.ref A.a_law_operand) = true
  f_law_operand : Fun K "_law_operand" "_law_operand" st_law_operand A.a_law_operand A.d_law_operand
  v_law_operand : Binds K A.d_law_operand ["_law_source_here", "_law_names"] []
  m_law_operand : mg "_law_operand" = some (.ref A.a_law_operand)
  k_law_trees : PySem.W.keepIn K (.ref A.a_law_trees) = true
  f_law_trees : Fun K "_law_trees" "_law_trees" st_law_trees A.a_law_trees A.d_law_trees
  v_law_trees : Binds K A.d_law_trees ["_law_source_here", "_law_names"] []
  m_law_trees : mg "_law_trees" = some (.ref A.a_law_trees)
  k_law_sorts : PySem.W.keepIn K (.ref A.a_law_sorts) = true
  f_law_sorts : Fun K "_law_sorts" "_law_sorts" st_law_sorts A.a_law_sorts A.d_law_sorts
  v_law_sorts : Binds K A.d_law_sorts ["_law_thing"] []
  m_law_sorts : mg "_law_sorts" = some (.ref A.a_law_sorts)
  k_law_is : PySem.W.keepIn K (.ref A.a_law_is) = true
  f_law_is : Fun K "_law_is" "_law_is" st_law_is A.a_law_is A.d_law_is
  v_law_is : Binds K A.d_law_is ["_law_thing", "_law_tree", "_law_k"] []
  m_law_is : mg "_law_is" = some (.ref A.a_law_is)
  k_law_right : PySem.W.keepIn K (.ref A.a_law_right) = true
  f_law_right : Fun K "_law_right" "_law_right" st_law_right A.a_law_right A.d_law_right
  v_law_right : Binds K A.d_law_right ["_law_source_here"] []
  m_law_right : mg "_law_right" = some (.ref A.a_law_right)
  k_law : PySem.W.keepIn K (.ref A.a_law) = true
  f_law : Fun K "law" "law" st_law A.a_law A.d_law
  v_law : Binds K A.d_law ["_law_numbers"] []
  m_law : mg "law" = some (.ref A.a_law)
  famB : FamC K A.c_Statement famAttrs
  fam : ∀ C ∈ A.fam, FamC K C famAttrs
  tab : ∀ (i j : Nat) (C D : Addr), A.fam[i]? = some C → A.fam[j]? = some D → PySem.W.kitOne K (.ref C) (.ref D) = some (i == j) ∧ PySem.W.notFirst K C (.ref D) = true
  sub : ∀ C ∈ A.fam, PySem.W.mroIn K C (.ref A.c_Statement) = some true ∧ PySem.W.kitOne K (.ref C) (.ref A.c_Statement) = some true
  slf : ∀ C ∈ A.fam, PySem.W.mroIn K C (.ref C) = some true
  sup : ∀ C ∈ A.fam, PySem.W.ks_superIn K C C "__init__" = some (some (.ref A.a_Statement___init__))
  pr_Statement_amount : ∀ C ∈ A.fam, Cls K C ∧ PropOf K C "amount" A.p_Statement_amount A.a_Statement_amount
  pr_Statement_level : ∀ C ∈ A.fam, Cls K C ∧ PropOf K C "level" A.p_Statement_level A.a_Statement_level
  sp_Statement___eq__ : ∀ C ∈ A.fam, Spc K C "__eq__" A.a_Statement___eq__
  sp_Statement___str__ : ∀ C ∈ A.fam, Spc K C "__str__" A.a_Statement___str__
  sp_Statement___repr__ : ∀ C ∈ A.fam, Spc K C "__repr__" A.a_Statement___repr__
  crd : ∀ C ∈ A.fam, ClX.CRead K C (.type "type")
  co_Look : ∃ u, Con K A.c_Look "WORD" (.str "look") u
  cv_Look : ∃ u, ClX.CVal K A.c_Look (.type "type") "WORD" (.str "look") u
  co_Put : ∃ u, Con K A.c_Put "WORD" (.str "put") u
  cv_Put : ∃ u, ClX.CVal K A.c_Put (.type "type") "WORD" (.str "put") u
  co_Swap : ∃ u, Con K A.c_Swap "WORD" (.str "swap") u
  cv_Swap : ∃ u, ClX.CVal K A.c_Swap (.type "type") "WORD" (.str "swap") u
  co_Try : ∃ u, Con K A.c_Try "WORD" (.str "try") u
  cv_Try : ∃ u, ClX.CVal K A.c_Try (.type "type") "WORD" (.str "try") u
  co_Let : ∃ u, Con K A.c_Let "WORD" (.str "let") u
  cv_Let : ∃ u, ClX.CVal K A.c_Let (.type "type") "WORD" (.str "let") u
  co_Leave : ∃ u, Con K A.c_Leave "WORD" (.str "leave") u
  cv_Leave : ∃ u, ClX.CVal K A.c_Leave (.type "type") "WORD" (.str "leave") u
  co_Return : ∃ u, Con K A.c_Return "WORD" (.str "return") u
  cv_Return : ∃ u, ClX.CVal K A.c_Return (.type "type") "WORD" (.str "return") u
  co_If : ∃ u, Con K A.c_If "WORD" (.str "if") u
  cv_If : ∃ u, ClX.CVal K A.c_If (.type "type") "WORD" (.str "if") u
  co_Loop : ∃ u, Con K A.c_Loop "WORD" (.str "loop") u
  cv_Loop : ∃ u, ClX.CVal K A.c_Loop (.type "type") "WORD" (.str "loop") u
  co_Joined : ∃ u, Con K A.c_Joined "WORD" (.str "joined") u
  cv_Joined : ∃ u, ClX.CVal K A.c_Joined (.type "type") "WORD" (.str "joined") u
  m_Statement : mg "Statement" = some (.ref A.c_Statement)
  m_Look : mg "Look" = some (.ref A.c_Look)
  mk_Look : Mk K A.c_Look A.a_Look___init__
  kb_Look : KBn K A.d_Look___init__ ["self", "cell", "into"] 1 ["into", "cell"] kp_Look kp_Look
  m_Put : mg "Put" = some (.ref A.c_Put)
  mk_Put : Mk K A.c_Put A.a_Put___init__
  kb_Put : KBn K A.d_Put___init__ ["self", "cell", "operand"] 1 ["operand", "cell"] kp_Put kp_Put
  m_Swap : mg "Swap" = some (.ref A.c_Swap)
  mk_Swap : Mk K A.c_Swap A.a_Swap___init__
  kb_Swap : KBn K A.d_Swap___init__ ["self", "cell", "operand", "into"] 1 ["into", "cell", "operand"] kp_Swap kp_Swap
  m_Try : mg "Try" = some (.ref A.c_Try)
  mk_Try : Mk K A.c_Try A.a_Try___init__
  kb_Try : KBn K A.d_Try___init__ ["self", "cell", "old", "new", "into"] 1 ["into", "new", "old", "cell"] kp_Try kp_Try
  m_Let : mg "Let" = some (.ref A.c_Let)
  mk_Let : Mk K A.c_Let A.a_Let___init__
  kb_Let : KBn K A.d_Let___init__ ["self", "into", "operand"] 1 ["operand", "into"] kp_Let kp_Let
  m_If : mg "If" = some (.ref A.c_If)
  m_Loop : mg "Loop" = some (.ref A.c_Loop)
  m_Leave : mg "Leave" = some (.ref A.c_Leave)
  mk_Leave : Mk K A.c_Leave A.a_Leave___init__
  m_Return : mg "Return" = some (.ref A.c_Return)
  mk_Return : Mk K A.c_Return A.a_Return___init__
  kb_Return : KBn K A.d_Return___init__ ["self", "operand"] 1 ["operand"] kp_Return kp_Return
  m_Joined : mg "Joined" = some (.ref A.c_Joined)
theorem txt_mk {K : PySem.W.Frag} {h : Heap} {mg : Str → Option Value} (X : K.In h) (G : h.Ns mainGlobals mg)
    {t_MAX_STATEMENTS : Tok}
    {t_MAX_LEVEL : Tok}
    {t_LETTERS : Tok}
    {t_SIGNS : Tok}
    {t_NOTHING : Tok}
    {t_YES : Tok}
    {t_LONGEST : Tok}
    {c_Statement : Addr}
    {c_Look : Addr}
    {c_Put : Addr}
    {c_Swap : Addr}
    {c_Try : Addr}
    {c_Let : Addr}
    {c_If : Addr}
    {c_Loop : Addr}
    {c_Leave : Addr}
    {c_Return : Addr}
    {c_Joined : Addr}
    {f_is_name : Addr} {od0 an0 : Option Addr} {sl0 : Array (Option Value)} {oc0 kV0 dc0 pm0 cd0 ct0 : Value}
    {f_is_operand : Addr} {od1 an1 : Option Addr} {sl1 : Array (Option Value)} {oc1 kV1 dc1 pm1 cd1 ct1 : Value}
    {f_check_name : Addr} {od2 an2 : Option Addr} {sl2 : Array (Option Value)} {oc2 kV2 dc2 pm2 cd2 ct2 : Value}
    {f_check_operand : Addr} {od3 an3 : Option Addr} {sl3 : Array (Option Value)} {oc3 kV3 dc3 pm3 cd3 ct3 : Value}
    {f_Statement___init__ : Addr} {od4 an4 : Option Addr} {sl4 : Array (Option Value)} {oc4 kV4 dc4 pm4 cd4 ct4 : Value}
    {x_Statement___init___0 x_Statement___init___1 x_Statement___init___2 dt_Statement___init__ : Addr} {ot4 : Obj} {nt4 : Nat}
    {oe4_0 : Option Addr} {ne4_0 : Nat} {se4_0 : Array (Option Value)}
    {oe4_1 : Option Addr} {ne4_1 : Nat} {se4_1 : Array (Option Value)}
    {oe4_2 : Option Addr} {ne4_2 : Nat} {se4_2 : Array (Option Value)}
    {f_Statement_amount : Addr} {od5 an5 : Option Addr} {sl5 : Array (Option Value)} {oc5 kV5 dc5 pm5 cd5 ct5 : Value}
    {p_Statement_amount : Addr} {rs_Statement_amount : List Value}
    {f_Statement_level : Addr} {od6 an6 : Option Addr} {sl6 : Array (Option Value)} {oc6 kV6 dc6 pm6 cd6 ct6 : Value}
    {p_Statement_level : Addr} {rs_Statement_level : List Value}
    {f_Statement___eq__ : Addr} {od7 an7 : Option Addr} {sl7 : Array (Option Value)} {oc7 kV7 dc7 pm7 cd7 ct7 : Value}
    {f_Statement___str__ : Addr} {od8 an8 : Option Addr} {sl8 : Array (Option Value)} {oc8 kV8 dc8 pm8 cd8 ct8 : Value}
    {f_Statement___repr__ : Addr} {od9 an9 : Option Addr} {sl9 : Array (Option Value)} {oc9 kV9 dc9 pm9 cd9 ct9 : Value}
    {f_Look___init__ : Addr} {od10 an10 : Option Addr} {sl10 : Array (Option Value)} {oc10 kV10 dc10 pm10 ct10 : Value}
    {cc_Look___init__ cda_Look___init__ : Addr} {fi10 : Str} {tf10 : Tok} {o210 : Obj} {vs10 : Array Value} {oC10 : Obj} {cls10 : ClassData}
    {f_Put___init__ : Addr} {od11 an11 : Option Addr} {sl11 : Array (Option Value)} {oc11 kV11 dc11 pm11 ct11 : Value}
    {cc_Put___init__ cda_Put___init__ : Addr} {fi11 : Str} {tf11 : Tok} {o211 : Obj} {vs11 : Array Value} {oC11 : Obj} {cls11 : ClassData}
    {f_Swap___init__ : Addr} {od12 an12 : Option Addr} {sl12 : Array (Option Value)} {oc12 kV12 dc12 pm12 ct12 : Value}
    {cc_Swap___init__ cda_Swap___init__ : Addr} {fi12 : Str} {tf12 : Tok} {o212 : Obj} {vs12 : Array Value} {oC12 : Obj} {cls12 : ClassData}
    {f_Try___init__ : Addr} {od13 an13 : Option Addr} {sl13 : Array (Option Value)} {oc13 kV13 dc13 pm13 ct13 : Value}
    {cc_Try___init__ cda_Try___init__ : Addr} {fi13 : Str} {tf13 : Tok} {o213 : Obj} {vs13 : Array Value} {oC13 : Obj} {cls13 : ClassData}
    {f_Let___init__ : Addr} {od14 an14 : Option Addr} {sl14 : Array (Option Value)} {oc14 kV14 dc14 pm14 ct14 : Value}
    {cc_Let___init__ cda_Let___init__ : Addr} {fi14 : Str} {tf14 : Tok} {o214 : Obj} {vs14 : Array Value} {oC14 : Obj} {cls14 : ClassData}
    {f_Leave___init__ : Addr} {od15 an15 : Option Addr} {sl15 : Array (Option Value)} {oc15 kV15 dc15 pm15 ct15 : Value}
    {cc_Leave___init__ cda_Leave___init__ : Addr} {fi15 : Str} {tf15 : Tok} {o215 : Obj} {vs15 : Array Value} {oC15 : Obj} {cls15 : ClassData}
    {f_Return___init__ : Addr} {od16 an16 : Option Addr} {sl16 : Array (Option Value)} {oc16 kV16 dc16 pm16 ct16 : Value}
    {cc_Return___init__ cda_Return___init__ : Addr} {fi16 : Str} {tf16 : Tok} {o216 : Obj} {vs16 : Array Value} {oC16 : Obj} {cls16 : ClassData}
    {f_indented : Addr} {od17 an17 : Option Addr} {sl17 : Array (Option Value)} {oc17 kV17 dc17 pm17 cd17 ct17 : Value}
    {f_law_number : Addr} {od18 an18 : Option Addr} {sl18 : Array (Option Value)} {oc18 kV18 dc18 pm18 cd18 ct18 : Value}
    {f_law_source : Addr} {od19 an19 : Option Addr} {sl19 : Array (Option Value)} {oc19 kV19 dc19 pm19 cd19 ct19 : Value}
    {f_law_take : Addr} {od20 an20 : Option Addr} {sl20 : Array (Option Value)} {oc20 kV20 dc20 pm20 cd20 ct20 : Value}
    {f_law_word : Addr} {od21 an21 : Option Addr} {sl21 : Array (Option Value)} {oc21 kV21 dc21 pm21 cd21 ct21 : Value}
    {f_law_words : Addr} {od22 an22 : Option Addr} {sl22 : Array (Option Value)} {oc22 kV22 dc22 pm22 cd22 ct22 : Value}
    {f_law_head : Addr} {od23 an23 : Option Addr} {sl23 : Array (Option Value)} {oc23 kV23 dc23 pm23 cd23 ct23 : Value}
    {f_law_made : Addr} {od24 an24 : Option Addr} {sl24 : Array (Option Value)} {oc24 kV24 dc24 pm24 cd24 ct24 : Value}
    {f_law_operand : Addr} {od25 an25 : Option Addr} {sl25 : Array (Option Value)} {oc25 kV25 dc25 pm25 cd25 ct25 : Value}
    {f_law_trees : Addr} {od26 an26 : Option Addr} {sl26 : Array (Option Value)} {oc26 kV26 dc26 pm26 cd26 ct26 : Value}
    {f_law_sorts : Addr} {od27 an27 : Option Addr} {sl27 : Array (Option Value)} {oc27 kV27 dc27 pm27 cd27 ct27 : Value}
    {f_law_is : Addr} {od28 an28 : Option Addr} {sl28 : Array (Option Value)} {oc28 kV28 dc28 pm28 cd28 ct28 : Value}
    {f_law_right : Addr} {od29 an29 : Option Addr} {sl29 : Array (Option Value)} {oc29 kV29 dc29 pm29 cd29 ct29 : Value}
    {f_law : Addr} {od30 an30 : Option Addr} {sl30 : Array (Option Value)} {oc30 kV30 dc30 pm30 cd30 ct30 : Value}
    {w_Look : Tok}
    {w_Put : Tok}
    {w_Swap : Tok}
    {w_Try : Tok}
    {w_Let : Tok}
    {w_Leave : Tok}
    {w_Return : Tok}
    {w_If : Tok}
    {w_Loop : Tok}
    {w_Joined : Tok}
    (z_abs : PySem.W.nsIn K mainGlobals "abs" = some none)
    (z_all : PySem.W.nsIn K mainGlobals "all" = some none)
    (z_divmod : PySem.W.nsIn K mainGlobals "divmod" = some none)
    (z_int : PySem.W.nsIn K mainGlobals "int" = some none)
    (z_isinstance : PySem.W.nsIn K mainGlobals "isinstance" = some none)
    (z_len : PySem.W.nsIn K mainGlobals "len" = some none)
    (z_list : PySem.W.nsIn K mainGlobals "list" = some none)
    (z_max : PySem.W.nsIn K mainGlobals "max" = some none)
    (z_min : PySem.W.nsIn K mainGlobals "min" = some none)
    (z_property : PySem.W.nsIn K mainGlobals "property" = some none)
    (z_range : PySem.W.nsIn K mainGlobals "range" = some none)
    (z_repr : PySem.W.nsIn K mainGlobals "repr" = some none)
    (z_str : PySem.W.nsIn K mainGlobals "str" = some none)
    (z_sum : PySem.W.nsIn K mainGlobals "sum" = some none)
    (z_super : PySem.W.nsIn K mainGlobals "super" = some none)
    (q_MAX_STATEMENTS : PySem.W.nsIn K mainGlobals "MAX_STATEMENTS" = some (some (.int (40) t_MAX_STATEMENTS)))
    (q_MAX_LEVEL : PySem.W.nsIn K mainGlobals "MAX_LEVEL" = some (some (.int (5) t_MAX_LEVEL)))
    (q_LETTERS : PySem.W.nsIn K mainGlobals "LETTERS" = some (some (.str "abcdefghijklmnopqrstuvwxyz" t_LETTERS)))
    (q_SIGNS : PySem.W.nsIn K mainGlobals "SIGNS" = some (some (.str "abcdefghijklmnopqrstuvwxyz0123456789" t_SIGNS)))
    (q_NOTHING : PySem.W.nsIn K mainGlobals "NOTHING" = some (some (.str "nothing" t_NOTHING)))
    (q_YES : PySem.W.nsIn K mainGlobals "YES" = some (some (.str "yes" t_YES)))
    (q_LONGEST : PySem.W.nsIn K mainGlobals "LONGEST" = some (some (.int (8) t_LONGEST)))
    (a_Statement : PySem.W.nsIn K mainGlobals "Statement" = some (some (.ref c_Statement)))
    (a_Look : PySem.W.nsIn K mainGlobals "Look" = some (some (.ref c_Look)))
    (a_Put : PySem.W.nsIn K mainGlobals "Put" = some (some (.ref c_Put)))
    (a_Swap : PySem.W.nsIn K mainGlobals "Swap" = some (some (.ref c_Swap)))
    (a_Try : PySem.W.nsIn K mainGlobals "Try" = some (some (.ref c_Try)))
    (a_Let : PySem.W.nsIn K mainGlobals "Let" = some (some (.ref c_Let)))
    (a_If : PySem.W.nsIn K mainGlobals "If" = some (some (.ref c_If)))
    (a_Loop : PySem.W.nsIn K mainGlobals "Loop" = some (some (.ref c_Loop)))
    (a_Leave : PySem.W.nsIn K mainGlobals "Leave" = some (some (.ref c_Leave)))
    (a_Return : PySem.W.nsIn K mainGlobals "Return" = some (some (.ref c_Return)))
    (a_Joined : PySem.W.nsIn K mainGlobals "Joined" = some (some (.ref c_Joined)))
    (a0 : PySem.W.nsIn K mainGlobals "is_name" = some (some (.ref f_is_name)))
    (l0 : K.lookup f_is_name = some ⟨oc0, od0, .func (PySem.W.fnOf "is_name" "is_name" (defArgs st_is_name) (defBody st_is_name) (defScope st_is_name) .none kV0 dc0 pm0 an0 cd0 ct0), sl0⟩)
    (e0 : PySem.W.codeIn K cd0 "is_name" = true)
    (k0 : PySem.W.keepIn K (.ref f_is_name) = true)
    (a1 : PySem.W.nsIn K mainGlobals "is_operand" = some (some (.ref f_is_operand)))
    (l1 : K.lookup f_is_operand = some ⟨oc1, od1, .func (PySem.W.fnOf "is_operand" "is_operand" (defArgs st_is_operand) (defBody st_is_operand) (defScope st_is_operand) .none kV1 dc1 pm1 an1 cd1 ct1), sl1⟩)
    (e1 : PySem.W.codeIn K cd1 "is_operand" = true)
    (k1 : PySem.W.keepIn K (.ref f_is_operand) = true)
    (a2 : PySem.W.nsIn K mainGlobals "check_name" = some (some (.ref f_check_name)))
    (l2 : K.lookup f_check_name = some ⟨oc2, od2, .func (PySem.W.fnOf "check_name" "check_name" (defArgs st_check_name) (defBody st_check_name) (defScope st_check_name) .none kV2 dc2 pm2 an2 cd2 ct2), sl2⟩)
    (e2 : PySem.W.codeIn K cd2 "check_name" = true)
    (k2 : PySem.W.keepIn K (.ref f_check_name) = true)
    (a3 : PySem.W.nsIn K mainGlobals "check_operand" = some (some (.ref f_check_operand)))
    (l3 : K.lookup f_check_operand = some ⟨oc3, od3, .func (PySem.W.fnOf "check_operand" "check_operand" (defArgs st_check_operand) (defBody st_check_operand) (defScope st_check_operand) .none kV3 dc3 pm3 an3 cd3 ct3), sl3⟩)
    (e3 : PySem.W.codeIn K cd3 "check_operand" = true)
    (k3 : PySem.W.keepIn K (.ref f_check_operand) = true)
    (a4 : PySem.W.findIn K (.ref c_Statement) "__init__" = some (some (.ref f_Statement___init__)))
    (i4 : PySem.W.isFn K (.ref f_Statement___init__) = true)
    (l4 : K.lookup f_Statement___init__ = some ⟨oc4, od4, .func (PySem.W.fnOf "__init__" "Statement.__init__" (defArgs st_Statement___init__) (defBody st_Statement___init__) (defScope st_Statement___init__) (.ref dt_Statement___init__) kV4 dc4 pm4 an4 cd4 ct4), sl4⟩)
    (e4 : PySem.W.codeIn K cd4 "Statement.__init__" = true)
    (k4 : PySem.W.keepIn K (.ref f_Statement___init__) = true)
    (dl4 : K.lookup dt_Statement___init__ = some ot4)
    (dm4 : ot4.data = .seq #[.ref x_Statement___init___0, .ref x_Statement___init___1, .ref x_Statement___init___2] nt4)
    (dx4_0 : K.lookup x_Statement___init___0 = some ⟨.type "tuple", oe4_0, .seq #[] ne4_0, se4_0⟩)
    (dx4_1 : K.lookup x_Statement___init___1 = some ⟨.type "tuple", oe4_1, .seq #[] ne4_1, se4_1⟩)
    (dx4_2 : K.lookup x_Statement___init___2 = some ⟨.type "tuple", oe4_2, .seq #[] ne4_2, se4_2⟩)
    (fi4_ : PySem.W.fnIn K f_Statement___init__ = true)
    (ft4_ : PySem.W.typeIn K (.ref f_Statement___init__) = some (.type "function"))
    (a5 : PySem.W.findIn K (.ref c_Statement) "amount" = some (some (.ref p_Statement_amount)))
    (pg5 : PySem.W.specialIn K (.ref p_Statement_amount) "__get__" = some (some (.builtin "property.__get__")))
    (pt5 : PySem.W.takesIn K (.ref p_Statement_amount) = some true)
    (pr5 : PySem.W.recIn K p_Statement_amount "property" = some (.ref f_Statement_amount :: rs_Statement_amount))
    (l5 : K.lookup f_Statement_amount = some ⟨oc5, od5, .func (PySem.W.fnOf "amount" "Statement.amount" (defArgs st_Statement_amount) (defBody st_Statement_amount) (defScope st_Statement_amount) .none kV5 dc5 pm5 an5 cd5 ct5), sl5⟩)
    (e5 : PySem.W.codeIn K cd5 "Statement.amount" = true)
    (k5 : PySem.W.keepIn K (.ref f_Statement_amount) = true)
    (a6 : PySem.W.findIn K (.ref c_Statement) "level" = some (some (.ref p_Statement_level)))
    (pg6 : PySem.W.specialIn K (.ref p_Statement_level) "__get__" = some (some (.builtin "property.__get__")))
    (pt6 : PySem.W.takesIn K (.ref p_Statement_level) = some true)
    (pr6 : PySem.W.recIn K p_Statement_level "property" = some (.ref f_Statement_level :: rs_Statement_level))
    (l6 : K.lookup f_Statement_level = some ⟨oc6, od6, .func (PySem.W.fnOf "level" "Statement.level" (defArgs st_Statement_level) (defBody st_Statement_level) (defScope st_Statement_level) .none kV6 dc6 pm6 an6 cd6 ct6), sl6⟩)
    (e6 : PySem.W.codeIn K cd6 "Statement.level" = true)
    (k6 : PySem.W.keepIn K (.ref f_Statement_level) = true)
    (a7 : PySem.W.findIn K (.ref c_Statement) "__eq__" = some (some (.ref f_Statement___eq__)))
    (i7 : PySem.W.isFn K (.ref f_Statement___eq__) = true)
    (l7 : K.lookup f_Statement___eq__ = some ⟨oc7, od7, .func (PySem.W.fnOf "__eq__" "Statement.__eq__" (defArgs st_Statement___eq__) (defBody st_Statement___eq__) (defScope st_Statement___eq__) .none kV7 dc7 pm7 an7 cd7 ct7), sl7⟩)
    (e7 : PySem.W.codeIn K cd7 "Statement.__eq__" = true)
    (k7 : PySem.W.keepIn K (.ref f_Statement___eq__) = true)
    (a8 : PySem.W.findIn K (.ref c_Statement) "__str__" = some (some (.ref f_Statement___str__)))
    (i8 : PySem.W.isFn K (.ref f_Statement___str__) = true)
    (l8 : K.lookup f_Statement___str__ = some ⟨oc8, od8, .func (PySem.W.fnOf "__str__" "Statement.__str__" (defArgs st_Statement___str__) (defBody st_Statement___str__) (defScope st_Statement___str__) .none kV8 dc8 pm8 an8 cd8 ct8), sl8⟩)
    (e8 : PySem.W.codeIn K cd8 "Statement.__str__" = true)
    (k8 : PySem.W.keepIn K (.ref f_Statement___str__) = true)
    (a9 : PySem.W.findIn K (.ref c_Statement) "__repr__" = some (some (.ref f_Statement___repr__)))
    (i9 : PySem.W.isFn K (.ref f_Statement___repr__) = true)
    (l9 : K.lookup f_Statement___repr__ = some ⟨oc9, od9, .func (PySem.W.fnOf "__repr__" "Statement.__repr__" (defArgs st_Statement___repr__) (defBody st_Statement___repr__) (defScope st_Statement___repr__) .none kV9 dc9 pm9 an9 cd9 ct9), sl9⟩)
    (e9 : PySem.W.codeIn K cd9 "Statement.__repr__" = true)
    (k9 : PySem.W.keepIn K (.ref f_Statement___repr__) = true)
    (a10 : PySem.W.findIn K (.ref c_Look) "__init__" = some (some (.ref f_Look___init__)))
    (i10 : PySem.W.isFn K (.ref f_Look___init__) = true)
    (l10 : K.lookup f_Look___init__ = some ⟨oc10, od10, .func (PySem.W.ksFn "__init__" "Look.__init__" (defArgs st_Look___init__) (defBody st_Look___init__) (defScope st_Look___init__) .none kV10 dc10 pm10 an10 (.ref cda_Look___init__) ct10 cc_Look___init__), sl10⟩)
    (e10 : PySem.W.codeIn K (.ref cda_Look___init__) "Look.__init__" = true)
    (k10 : PySem.W.keepIn K (.ref f_Look___init__) = true)
    (co10 : K.lookup cda_Look___init__ = some o210)
    (cp10 : o210.data = .fields vs10)
    (cq10 : vs10[2]? = some (.str fi10 tf10))
    (cr10 : ((P.main.file : Str) == fi10) = true)
    (cs10 : K.lookup cc_Look___init__ = some oC10)
    (ct_10 : oC10.data = .cell (some (.ref c_Look)))
    (cu10 : PySem.W.clsIn K c_Look = some cls10)
    (a11 : PySem.W.findIn K (.ref c_Put) "__init__" = some (some (.ref f_Put___init__)))
    (i11 : PySem.W.isFn K (.ref f_Put___init__) = true)
    (l11 : K.lookup f_Put___init__ = some ⟨oc11, od11, .func (PySem.W.ksFn "__init__" "Put.__init__" (defArgs st_Put___init__) (defBody st_Put___init__) (defScope st_Put___init__) .none kV11 dc11 pm11 an11 (.ref cda_Put___init__) ct11 cc_Put___init__), sl11⟩)
    (e11 : PySem.W.codeIn K (.ref cda_Put___init__) "Put.__init__" = true)
    (k11 : PySem.W.keepIn K (.ref f_Put___init__) = true)
    (co11 : K.lookup cda_Put___init__ = some o211)
    (cp11 : o211.data = .fields vs11)
    (cq11 : vs11[2]? = some (.str fi11 tf11))
    (cr11 : ((P.main.file : Str) == fi11) = true)
    (cs11 : K.lookup cc_Put___init__ = some oC11)
    (ct_11 : oC11.data = .cell (some (.ref c_Put)))
    (cu11 : PySem.W.clsIn K c_Put = some cls11)
    (a12 : PySem.W.findIn K (.ref c_Swap) "__init__" = some (some (.ref f_Swap___init__)))
    (i12 : PySem.W.isFn K (.ref f_Swap___init__) = true)
    (l12 : K.lookup f_Swap___init__ = some ⟨oc12, od12, .func (PySem.W.ksFn "__init__" "Swap.__init__" (defArgs st_Swap___init__) (defBody st_Swap___init__) (defScope st_Swap___init__) .none kV12 dc12 pm12 an12 (.ref cda_Swap___init__) ct12 cc_Swap___init__), sl12⟩)
    (e12 : PySem.W.codeIn K (.ref cda_Swap___init__) "Swap.__init__" = true)
    (k12 : PySem.W.keepIn K (.ref f_Swap___init__) = true)
    (co12 : K.lookup cda_Swap___init__ = some o212)
    (cp12 : o212.data = .fields vs12)
    (cq12 : vs12[2]? = some (.str fi12 tf12))
    (cr12 : ((P.main.file : Str) == fi12) = true)
    (cs12 : K.lookup cc_Swap___init__ = some oC12)
    (ct_12 : oC12.data = .cell (some (.ref c_Swap)))
    (cu12 : PySem.W.clsIn K c_Swap = some cls12)
    (a13 : PySem.W.findIn K (.ref c_Try) "__init__" = some (some (.ref f_Try___init__)))
    (i13 : PySem.W.isFn K (.ref f_Try___init__) = true)
    (l13 : K.lookup f_Try___init__ = some ⟨oc13, od13, .func (PySem.W.ksFn "__init__" "Try.__init__" (defArgs st_Try___init__) (defBody st_Try___init__) (defScope st_Try___init__) .none kV13 dc13 pm13 an13 (.ref cda_Try___init__) ct13 cc_Try___init__), sl13⟩)
    (e13 : PySem.W.codeIn K (.ref cda_Try___init__) "Try.__init__" = true)
    (k13 : PySem.W.keepIn K (.ref f_Try___init__) = true)
    (co13 : K.lookup cda_Try___init__ = some o213)
    (cp13 : o213.data = .fields vs13)
    (cq13 : vs13[2]? = some (.str fi13 tf13))
    (cr13 : ((P.main.file : Str) == fi13) = true)
    (cs13 : K.lookup cc_Try___init__ = some oC13)
    (ct_13 : oC13.data = .cell (some (.ref c_Try)))
    (cu13 : PySem.W.clsIn K c_Try = some cls13)
    (a14 : PySem.W.findIn K (.ref c_Let) "__init__" = some (some (.ref f_Let___init__)))
    (i14 : PySem.W.isFn K (.ref f_Let___init__) = true)
    (l14 : K.lookup f_Let___init__ = some ⟨oc14, od14, .func (PySem.W.ksFn "__init__" "Let.__init__" (defArgs st_Let___init__) (defBody st_Let___init__) (defScope st_Let___init__) .none kV14 dc14 pm14 an14 (.ref cda_Let___init__) ct14 cc_Let___init__), sl14⟩)
    (e14 : PySem.W.codeIn K (.ref cda_Let___init__) "Let.__init__" = true)
    (k14 : PySem.W.keepIn K (.ref f_Let___init__) = true)
    (co14 : K.lookup cda_Let___init__ = some o214)
    (cp14 : o214.data = .fields vs14)
    (cq14 : vs14[2]? = some (.str fi14 tf14))
    (cr14 : ((P.main.file : Str) == fi14) = true)
    (cs14 : K.lookup cc_Let___init__ = some oC14)
    (ct_14 : oC14.data = .cell (some (.ref c_Let)))
    (cu14 : PySem.W.clsIn K c_Let = some cls14)
    (a15 : PySem.W.findIn K (.ref c_Leave) "__init__" = some (some (.ref f_Leave___init__)))
    (i15 : PySem.W.isFn K (.ref f_Leave___init__) = true)
    (l15 : K.lookup f_Leave___init__ = some ⟨oc15, od15, .func (PySem.W.ksFn "__init__" "Leave.__init__" (defArgs st_Leave___init__) (defBody st_Leave___init__) (defScope st_Leave___init__) .none kV15 dc15 pm15 an15 (.ref cda_Leave___init__) ct15 cc_Leave___init__), sl15⟩)
    (e15 : PySem.W.codeIn K (.ref cda_Leave___init__) "Leave.__init__" = true)
    (k15 : PySem.W.keepIn K (.ref f_Leave___init__) = true)
    (co15 : K.lookup cda_Leave___init__ = some o215)
    (cp15 : o215.data = .fields vs15)
    (cq15 : vs15[2]? = some (.str fi15 tf15))
    (cr15 : ((P.main.file : Str) == fi15) = true)
    (cs15 : K.lookup cc_Leave___init__ = some oC15)
    (ct_15 : oC15.data = .cell (some (.ref c_Leave)))
    (cu15 : PySem.W.clsIn K c_Leave = some cls15)
    (a16 : PySem.W.findIn K (.ref c_Return) "__init__" = some (some (.ref f_Return___init__)))
    (i16 : PySem.W.isFn K (.ref f_Return___init__) = true)
    (l16 : K.lookup f_Return___init__ = some ⟨oc16, od16, .func (PySem.W.ksFn "__init__" "Return.__init__" (defArgs st_Return___init__) (defBody st_Return___init__) (defScope st_Return___init__) .none kV16 dc16 pm16 an16 (.ref cda_Return___init__) ct16 cc_Return___init__), sl16⟩)
    (e16 : PySem.W.codeIn K (.ref cda_Return___init__) "Return.__init__" = true)
    (k16 : PySem.W.keepIn K (.ref f_Return___init__) = true)
    (co16 : K.lookup cda_Return___init__ = some o216)
    (cp16 : o216.data = .fields vs16)
    (cq16 : vs16[2]? = some (.str fi16 tf16))
    (cr16 : ((P.main.file : Str) == fi16) = true)
    (cs16 : K.lookup cc_Return___init__ = some oC16)
    (ct_16 : oC16.data = .cell (some (.ref c_Return)))
    (cu16 : PySem.W.clsIn K c_Return = some cls16)
    (a17 : PySem.W.nsIn K mainGlobals "indented" = some (some (.ref f_indented)))
    (l17 : K.lookup f_indented = some ⟨oc17, od17, .func (PySem.W.fnOf "indented" "indented" (defArgs st_indented) (defBody st_indented) (defScope st_indented) .none kV17 dc17 pm17 an17 cd17 ct17), sl17⟩)
    (e17 : PySem.W.codeIn K cd17 "indented" = true)
    (k17 : PySem.W.keepIn K (.ref f_indented) = true)
    (a18 : PySem.W.nsIn K mainGlobals "_law_number" = some (some (.ref f_law_number)))
    (l18 : K.lookup f_law_number = some ⟨oc18, od18, .func (PySem.W.fnOf "_law_number" "_law_number" (defArgs st_law_number) (defBody st_law_number) (defScope st_law_number) .none kV18 dc18 pm18 an18 cd18 ct18), sl18⟩)
    (e18 : PySem.W.codeIn K cd18 "_law_number" = true)
    (k18 : PySem.W.keepIn K (.ref f_law_number) = true)
    (a19 : PySem.W.nsIn K mainGlobals "_law_source" = some (some (.ref f_law_source)))
    (l19 : K.lookup f_law_source = some ⟨oc19, od19, .func (PySem.W.fnOf "_law_source" "_law_source" (defArgs st_law_source) (defBody st_law_source) (defScope st_law_source) .none kV19 dc19 pm19 an19 cd19 ct19), sl19⟩)
    (e19 : PySem.W.codeIn K cd19 "_law_source" = true)
    (k19 : PySem.W.keepIn K (.ref f_law_source) = true)
    (a20 : PySem.W.nsIn K mainGlobals "_law_take" = some (some (.ref f_law_take)))
    (l20 : K.lookup f_law_take = some ⟨oc20, od20, .func (PySem.W.fnOf "_law_take" "_law_take" (defArgs st_law_take) (defBody st_law_take) (defScope st_law_take) .none kV20 dc20 pm20 an20 cd20 ct20), sl20⟩)
    (e20 : PySem.W.codeIn K cd20 "_law_take" = true)
    (k20 : PySem.W.keepIn K (.ref f_law_take) = true)
    (a21 : PySem.W.nsIn K mainGlobals "_law_word" = some (some (.ref f_law_word)))
    (l21 : K.lookup f_law_word = some ⟨oc21, od21, .func (PySem.W.fnOf "_law_word" "_law_word" (defArgs st_law_word) (defBody st_law_word) (defScope st_law_word) .none kV21 dc21 pm21 an21 cd21 ct21), sl21⟩)
    (e21 : PySem.W.codeIn K cd21 "_law_word" = true)
    (k21 : PySem.W.keepIn K (.ref f_law_word) = true)
    (a22 : PySem.W.nsIn K mainGlobals "_law_words" = some (some (.ref f_law_words)))
    (l22 : K.lookup f_law_words = some ⟨oc22, od22, .func (PySem.W.fnOf "_law_words" "_law_words" (defArgs st_law_words) (defBody st_law_words) (defScope st_law_words) .none kV22 dc22 pm22 an22 cd22 ct22), sl22⟩)
    (e22 : PySem.W.codeIn K cd22 "_law_words" = true)
    (k22 : PySem.W.keepIn K (.ref f_law_words) = true)
    (a23 : PySem.W.nsIn K mainGlobals "_law_head" = some (some (.ref f_law_head)))
    (l23 : K.lookup f_law_head = some ⟨oc23, od23, .func (PySem.W.fnOf "_law_head" "_law_head" (defArgs st_law_head) (defBody st_law_head) (defScope st_law_head) .none kV23 dc23 pm23 an23 cd23 ct23), sl23⟩)
    (e23 : PySem.W.codeIn K cd23 "_law_head" = true)
    (k23 : PySem.W.keepIn K (.ref f_law_head) = true)
    (a24 : PySem.W.nsIn K mainGlobals "_law_made" = some (some (.ref f_law_made)))
    (l24 : K.lookup f_law_made = some ⟨oc24, od24, .func (PySem.W.fnOf "_law_made" "_law_made" (defArgs st_law_made) (defBody st_law_made) (defScope st_law_made) .none kV24 dc24 pm24 an24 cd24 ct24), sl24⟩)
    (e24 : PySem.W.codeIn K cd24 "_law_made" = true)
    (k24 : PySem.W.keepIn K (.ref f_law_made) = true)
    (a25 : PySem.W.nsIn K mainGlobals "_law_operand" = some (some (.ref f_law_operand)))
    (l25 : K.lookup f_law_operand = some ⟨oc25, od25, .func (PySem.W.fnOf "_law_operand" "_law_operand" (defArgs st_law_operand) (defBody st_law_operand) (defScope st_law_operand) .none kV25 dc25 pm25 an25 cd25 ct25), sl25⟩)
    (e25 : PySem.W.codeIn K cd25 "_law_operand" = true)
    (k25 : PySem.W.keepIn K (.ref f_law_operand) = true)
    (a26 : PySem.W.nsIn K mainGlobals "_law_trees" = some (some (.ref f_law_trees)))
    (l26 : K.lookup f_law_trees = some ⟨oc26, od26, .func (PySem.W.fnOf "_law_trees" "_law_trees" (defArgs st_law_trees) (defBody st_law_trees) (defScope st_law_trees) .none kV26 dc26 pm26 an26 cd26 ct26), sl26⟩)
    (e26 : PySem.W.codeIn K cd26 "_law_trees" = true)
    (k26 : PySem.W.keepIn K (.ref f_law_trees) = true)
    (a27 : PySem.W.nsIn K mainGlobals "_law_sorts" = some (some (.ref f_law_sorts)))
    (l27 : K.lookup f_law_sorts = some ⟨oc27, od27, .func (PySem.W.fnOf "_law_sorts" "_law_sorts" (defArgs st_law_sorts) (defBody st_law_sorts) (defScope st_law_sorts) .none kV27 dc27 pm27 an27 cd27 ct27), sl27⟩)
    (e27 : PySem.W.codeIn K cd27 "_law_sorts" = true)
    (k27 : PySem.W.keepIn K (.ref f_law_sorts) = true)
    (a28 : PySem.W.nsIn K mainGlobals "_law_is" = some (some (.ref f_law_is)))
    (l28 : K.lookup f_law_is = some ⟨oc28, od28, .func (PySem.W.fnOf "_law_is" "_law_is" (defArgs st_law_is) (defBody st_law_is) (defScope st_law_is) .none kV28 dc28 pm28 an28 cd28 ct28), sl28⟩)
    (e28 : PySem.W.codeIn K cd28 "_law_is" = true)
    (k28 : PySem.W.keepIn K (.ref f_law_is) = true)
    (a29 : PySem.W.nsIn K mainGlobals "_law_right" = some (some (.ref f_law_right)))
    (l29 : K.lookup f_law_right = some ⟨oc29, od29, .func (PySem.W.fnOf "_law_right" "_law_right" (defArgs st_law_right) (defBody st_law_right) (defScope st_law_right) .none kV29 dc29 pm29 an29 cd29 ct29), sl29⟩)
    (e29 : PySem.W.codeIn K cd29 "_law_right" = true)
    (k29 : PySem.W.keepIn K (.ref f_law_right) = true)
    (a30 : PySem.W.nsIn K mainGlobals "law" = some (some (.ref f_law)))
    (l30 : K.lookup f_law = some ⟨oc30, od30, .func (PySem.W.fnOf "law" "law" (defArgs st_law) (defBody st_law) (defScope st_law) .none kV30 dc30 pm30 an30 cd30 ct30), sl30⟩)
    (e30 : PySem.W.codeIn K cd30 "law" = true)
    (k30 : PySem.W.keepIn K (.ref f_law) = true)
    (xg_ : PySem.W.specialIn K (.builtin "object.__class__") "__get__" = some (some (.builtin "getset_descriptor.__get__")))
    (xt_ : PySem.W.takesIn K (.builtin "object.__class__") = some true)
    (fb_ : famChk K c_Statement famAttrs = true)
    (fc_ : ([c_Look, c_Put, c_Swap, c_Try, c_Let, c_Leave, c_Return, c_If, c_Loop, c_Joined].all fun C => famChk K C famAttrs) = true)
    (ft_ : tabChk K [c_Look, c_Put, c_Swap, c_Try, c_Let, c_Leave, c_Return, c_If, c_Loop, c_Joined] = true)
    (fu_ : ([c_Look, c_Put, c_Swap, c_Try, c_Let, c_Leave, c_Return, c_If, c_Loop, c_Joined].all fun C => (PySem.W.mroIn K C (.ref c_Statement) == some true) && ((PySem.W.subIn K (.ref C) (.ref c_Statement) == some true) && (C != c_Statement))) = true)
    (fy_ : ([c_Look, c_Put, c_Swap, c_Try, c_Let, c_Leave, c_Return, c_If, c_Loop, c_Joined].all fun C => PySem.W.mroIn K C (.ref C) == some true) = true)
    (fv_ : ([c_Look, c_Put, c_Swap, c_Try, c_Let, c_Leave, c_Return, c_If, c_Loop, c_Joined].all fun C => PySem.W.ks_superIn K C C "__init__" == some (some (.ref f_Statement___init__))) = true)
    (fw5 : ([c_Look, c_Put, c_Swap, c_Try, c_Let, c_Leave, c_Return, c_If, c_Loop, c_Joined].all fun C => PySem.W.findIn K (.ref C) "amount" == some (some (.ref p_Statement_amount))) = true)
    (fw6 : ([c_Look, c_Put, c_Swap, c_Try, c_Let, c_Leave, c_Return, c_If, c_Loop, c_Joined].all fun C => PySem.W.findIn K (.ref C) "level" == some (some (.ref p_Statement_level))) = true)
    (fw7 : ([c_Look, c_Put, c_Swap, c_Try, c_Let, c_Leave, c_Return, c_If, c_Loop, c_Joined].all fun C => PySem.W.findIn K (.ref C) "__eq__" == some (some (.ref f_Statement___eq__))) = true)
    (fw8 : ([c_Look, c_Put, c_Swap, c_Try, c_Let, c_Leave, c_Return, c_If, c_Loop, c_Joined].all fun C => PySem.W.findIn K (.ref C) "__str__" == some (some (.ref f_Statement___str__))) = true)
    (fw9 : ([c_Look, c_Put, c_Swap, c_Try, c_Let, c_Leave, c_Return, c_If, c_Loop, c_Joined].all fun C => PySem.W.findIn K (.ref C) "__repr__" == some (some (.ref f_Statement___repr__))) = true)
    (fx_ : ([c_Look, c_Put, c_Swap, c_Try, c_Let, c_Leave, c_Return, c_If, c_Loop, c_Joined].all fun C => PySem.W.readsIn K C (.type "type") && (PySem.W.specialIn K (.ref C) "__getattribute__" == some (some (.builtin "type.__getattribute__")))) = true)
    (wa_Look : PySem.W.findIn K (.ref c_Look) "WORD" = some (some (.str "look" w_Look)))
    (wg_Look : PySem.W.specialIn K (.str "look" w_Look) "__get__" = some none)
    (wc_Look : PySem.W.findCls K (.ref c_Look) (.type "type") "WORD" = some (.val (.str "look" w_Look)))
    (wa_Put : PySem.W.findIn K (.ref c_Put) "WORD" = some (some (.str "put" w_Put)))
    (wg_Put : PySem.W.specialIn K (.str "put" w_Put) "__get__" = some none)
    (wc_Put : PySem.W.findCls K (.ref c_Put) (.type "type") "WORD" = some (.val (.str "put" w_Put)))
    (wa_Swap : PySem.W.findIn K (.ref c_Swap) "WORD" = some (some (.str "swap" w_Swap)))
    (wg_Swap : PySem.W.specialIn K (.str "swap" w_Swap) "__get__" = some none)
    (wc_Swap : PySem.W.findCls K (.ref c_Swap) (.type "type") "WORD" = some (.val (.str "swap" w_Swap)))
    (wa_Try : PySem.W.findIn K (.ref c_Try) "WORD" = some (some (.str "try" w_Try)))
    (wg_Try : PySem.W.specialIn K (.str "try" w_Try) "__get__" = some none)
    (wc_Try : PySem.W.findCls K (.ref c_Try) (.type "type") "WORD" = some (.val (.str "try" w_Try)))
    (wa_Let : PySem.W.findIn K (.ref c_Let) "WORD" = some (some (.str "let" w_Let)))
    (wg_Let : PySem.W.specialIn K (.str "let" w_Let) "__get__" = some none)
    (wc_Let : PySem.W.findCls K (.ref c_Let) (.type "type") "WORD" = some (.val (.str "let" w_Let)))
    (wa_Leave : PySem.W.findIn K (.ref c_Leave) "WORD" = some (some (.str "leave" w_Leave)))
    (wg_Leave : PySem.W.specialIn K (.str "leave" w_Leave) "__get__" = some none)
    (wc_Leave : PySem.W.findCls K (.ref c_Leave) (.type "type") "WORD" = some (.val (.str "leave" w_Leave)))
    (wa_Return : PySem.W.findIn K (.ref c_Return) "WORD" = some (some (.str "return" w_Return)))
    (wg_Return : PySem.W.specialIn K (.str "return" w_Return) "__get__" = some none)
    (wc_Return : PySem.W.findCls K (.ref c_Return) (.type "type") "WORD" = some (.val (.str "return" w_Return)))
    (wa_If : PySem.W.findIn K (.ref c_If) "WORD" = some (some (.str "if" w_If)))
    (wg_If : PySem.W.specialIn K (.str "if" w_If) "__get__" = some none)
    (wc_If : PySem.W.findCls K (.ref c_If) (.type "type") "WORD" = some (.val (.str "if" w_If)))
    (wa_Loop : PySem.W.findIn K (.ref c_Loop) "WORD" = some (some (.str "loop" w_Loop)))
    (wg_Loop : PySem.W.specialIn K (.str "loop" w_Loop) "__get__" = some none)
    (wc_Loop : PySem.W.findCls K (.ref c_Loop) (.type "type") "WORD" = some (.val (.str "loop" w_Loop)))
    (wa_Joined : PySem.W.findIn K (.ref c_Joined) "WORD" = some (some (.str "joined" w_Joined)))
    (wg_Joined : PySem.W.specialIn K (.str "joined" w_Joined) "__get__" = some none)
    (wc_Joined : PySem.W.findCls K (.ref c_Joined) (.type "type") "WORD" = some (.val (.str "joined" w_Joined)))
    (mk_Look : PySem.W.makesIn K c_Look = true)
    (kc_Look : PySem.W.keepIn K (.ref c_Look) = true)
    (mk_Put : PySem.W.makesIn K c_Put = true)
    (kc_Put : PySem.W.keepIn K (.ref c_Put) = true)
    (mk_Swap : PySem.W.makesIn K c_Swap = true)
    (kc_Swap : PySem.W.keepIn K (.ref c_Swap) = true)
    (mk_Try : PySem.W.makesIn K c_Try = true)
    (kc_Try : PySem.W.keepIn K (.ref c_Try) = true)
    (mk_Let : PySem.W.makesIn K c_Let = true)
    (kc_Let : PySem.W.keepIn K (.ref c_Let) = true)
    (mk_Leave : PySem.W.makesIn K c_Leave = true)
    (kc_Leave : PySem.W.keepIn K (.ref c_Leave) = true)
    (mk_Return : PySem.W.makesIn K c_Return = true)
    (kc_Return : PySem.W.keepIn K (.ref c_Return) = true)
    (ztop : (P.main.scope.names.lookup ("super" : Str)).isSome = false)
    (zopq : PySem.W.nsIn K cStatics "thirdparty.any" = some none) :
    ∃ A : Ads, Txt K mg A ∧ ∀ (s : Shared) (v : Value), BindsTo s A.d_law ⟨[v], []⟩ [("_law_numbers", v)] := by
  have F0 := fun_mk (st := st_is_name) l0 e0 k0
  have F1 := fun_mk (st := st_is_operand) l1 e1 k1
  have F2 := fun_mk (st := st_check_name) l2 e2 k2
  have F3 := fun_mk (st := st_check_operand) l3 e3 k3
  have F5 := fun_mk (st := st_Statement_amount) l5 e5 k5
  have F6 := fun_mk (st := st_Statement_level) l6 e6 k6
  have F7 := fun_mk (st := st_Statement___eq__) l7 e7 k7
  have F8 := fun_mk (st := st_Statement___str__) l8 e8 k8
  have F9 := fun_mk (st := st_Statement___repr__) l9 e9 k9
  have F17 := fun_mk (st := st_indented) l17 e17 k17
  have F18 := fun_mk (st := st_law_number) l18 e18 k18
  have F19 := fun_mk (st := st_law_source) l19 e19 k19
  have F20 := fun_mk (st := st_law_take) l20 e20 k20
  have F21 := fun_mk (st := st_law_word) l21 e21 k21
  have F22 := fun_mk (st := st_law_words) l22 e22 k22
  have F23 := fun_mk (st := st_law_head) l23 e23 k23
  have F24 := fun_mk (st := st_law_made) l24 e24 k24
  have F25 := fun_mk (st := st_law_operand) l25 e25 k25
  have F26 := fun_mk (st := st_law_trees) l26 e26 k26
  have F27 := fun_mk (st := st_law_sorts) l27 e27 k27
  have F28 := fun_mk (st := st_law_is) l28 e28 k28
  have F29 := fun_mk (st := st_law_right) l29 e29 k29
  have F30 := fun_mk (st := st_law) l30 e30 k30
  exact ⟨⟨t_MAX_STATEMENTS, t_MAX_LEVEL, t_LETTERS, t_SIGNS, t_NOTHING, t_YES, t_LONGEST, c_Statement, c_Look, c_Put, c_Swap, c_Try, c_Let, c_If, c_Loop, c_Leave, c_Return, c_Joined, f_is_name, _, f_is_operand, _, f_check_name, _, f_check_operand, _, f_Statement___init__, _, x_Statement___init___0, x_Statement___init___1, x_Statement___init___2, dt_Statement___init__, f_Statement_amount, _, f_Statement_level, _, f_Statement___eq__, _, f_Statement___str__, _, f_Statement___repr__, _, f_Look___init__, _, cc_Look___init__, f_Put___init__, _, cc_Put___init__, f_Swap___init__, _, cc_Swap___init__, f_Try___init__, _, cc_Try___init__, f_Let___init__, _, cc_Let___init__, f_Leave___init__, _, cc_Leave___init__, f_Return___init__, _, cc_Return___init__, f_indented, _, f_law_number, _, f_law_source, _, f_law_take, _, f_law_word, _, f_law_words, _, f_law_head, _, f_law_made, _, f_law_operand, _, f_law_trees, _, f_law_sorts, _, f_law_is, _, f_law_right, _, f_law, _, p_Statement_amount, p_Statement_level⟩, ⟨PySem.W.mg_none_of X G z_abs,
    PySem.W.mg_none_of X G z_all,
    PySem.W.mg_none_of X G z_divmod,
    PySem.W.mg_none_of X G z_int,
    PySem.W.mg_none_of X G z_isinstance,
    PySem.W.mg_none_of X G z_len,
    PySem.W.mg_none_of X G z_list,
    PySem.W.mg_none_of X G z_max,
    PySem.W.mg_none_of X G z_min,
    PySem.W.mg_none_of X G z_property,
    PySem.W.mg_none_of X G z_range,
    PySem.W.mg_none_of X G z_repr,
    PySem.W.mg_none_of X G z_str,
    PySem.W.mg_none_of X G z_sum,
    PySem.W.mg_none_of X G z_super,
    PySem.W.mg_of X G q_MAX_STATEMENTS,
    PySem.W.mg_of X G q_MAX_LEVEL,
    PySem.W.mg_of X G q_LETTERS,
    PySem.W.mg_of X G q_SIGNS,
    PySem.W.mg_of X G q_NOTHING,
    PySem.W.mg_of X G q_YES,
    PySem.W.mg_of X G q_LONGEST,
    k0,
    F0,
    F0.binds (ps := ["value"]) fun _ _ _ _ _ _ us hl => match us, hl with | [_], _ => rfl,
    PySem.W.mg_of X G a0,
    k1,
    F1,
    F1.binds (ps := ["value"]) fun _ _ _ _ _ _ us hl => match us, hl with | [_], _ => rfl,
    PySem.W.mg_of X G a1,
    k2,
    F2,
    F2.binds (ps := ["value"]) fun _ _ _ _ _ _ us hl => match us, hl with | [_], _ => rfl,
    PySem.W.mg_of X G a2,
    k3,
    F3,
    F3.binds (ps := ["value"]) fun _ _ _ _ _ _ us hl => match us, hl with | [_], _ => rfl,
    PySem.W.mg_of X G a3,
    fun H => Mo.sqt_K dx4_0 (by decide) .nil,
    fun H => .kTuple dx4_0 rfl,
    fun H => Mo.sqt_K dx4_1 (by decide) .nil,
    fun H => .kTuple dx4_1 rfl,
    fun H => Mo.sqt_K dx4_2 (by decide) .nil,
    fun H => .kTuple dx4_2 rfl,
    k4,
    ⟨⟨_, _, _, _, _, _, _, _, _, rfl, l4, e4⟩, k4⟩,
    bindsD (its := [.ref x_Statement___init___0, .ref x_Statement___init___1, .ref x_Statement___init___2]) (n := 2) (j := 0) dl4 dm4 rfl fun us hl => match us, hl with | [_, _], _ => ⟨_, rfl, rfl⟩,
    bindsD (its := [.ref x_Statement___init___0, .ref x_Statement___init___1, .ref x_Statement___init___2]) (n := 3) (j := 1) dl4 dm4 rfl fun us hl => match us, hl with | [_, _, _], _ => ⟨_, rfl, rfl⟩,
    bindsD (its := [.ref x_Statement___init___0, .ref x_Statement___init___1, .ref x_Statement___init___2]) (n := 4) (j := 2) dl4 dm4 rfl fun us hl => match us, hl with | [_, _, _, _], _ => ⟨_, rfl, rfl⟩,
    bindsD (its := [.ref x_Statement___init___0, .ref x_Statement___init___1, .ref x_Statement___init___2]) (n := 5) (j := 3) dl4 dm4 rfl fun us hl => match us, hl with | [_, _, _, _, _], _ => ⟨_, rfl, rfl⟩,
    fi4_,
    ft4_,
    k5,
    F5,
    F5.binds (ps := ["self"]) fun _ _ _ _ _ _ us hl => match us, hl with | [_], _ => rfl,
    k6,
    F6,
    F6.binds (ps := ["self"]) fun _ _ _ _ _ _ us hl => match us, hl with | [_], _ => rfl,
    k7,
    F7,
    F7.binds (ps := ["self", "other"]) fun _ _ _ _ _ _ us hl => match us, hl with | [_, _], _ => rfl,
    k8,
    F8,
    F8.binds (ps := ["self"]) fun _ _ _ _ _ _ us hl => match us, hl with | [_], _ => rfl,
    k9,
    F9,
    F9.binds (ps := ["self"]) fun _ _ _ _ _ _ us hl => match us, hl with | [_], _ => rfl,
    k10,
    ⟨⟨_, _, _, _, _, _, _, _, _, _, rfl, l10, e10, o210, vs10, fi10, tf10, co10, cp10, cq10, cr10⟩, ⟨_, cs10, ct_10⟩, ⟨_, cu10⟩, ztop, zopq⟩,
    Binds.all fun us hl => match us, hl with | [_, _, _], _ => rfl,
    k11,
    ⟨⟨_, _, _, _, _, _, _, _, _, _, rfl, l11, e11, o211, vs11, fi11, tf11, co11, cp11, cq11, cr11⟩, ⟨_, cs11, ct_11⟩, ⟨_, cu11⟩, ztop, zopq⟩,
    Binds.all fun us hl => match us, hl with | [_, _, _], _ => rfl,
    k12,
    ⟨⟨_, _, _, _, _, _, _, _, _, _, rfl, l12, e12, o212, vs12, fi12, tf12, co12, cp12, cq12, cr12⟩, ⟨_, cs12, ct_12⟩, ⟨_, cu12⟩, ztop, zopq⟩,
    Binds.all fun us hl => match us, hl with | [_, _, _, _], _ => rfl,
    k13,
    ⟨⟨_, _, _, _, _, _, _, _, _, _, rfl, l13, e13, o213, vs13, fi13, tf13, co13, cp13, cq13, cr13⟩, ⟨_, cs13, ct_13⟩, ⟨_, cu13⟩, ztop, zopq⟩,
    Binds.all fun us hl => match us, hl with | [_, _, _, _, _], _ => rfl,
    k14,
    ⟨⟨_, _, _, _, _, _, _, _, _, _, rfl, l14, e14, o214, vs14, fi14, tf14, co14, cp14, cq14, cr14⟩, ⟨_, cs14, ct_14⟩, ⟨_, cu14⟩, ztop, zopq⟩,
    Binds.all fun us hl => match us, hl with | [_, _, _], _ => rfl,
    k15,
    ⟨⟨_, _, _, _, _, _, _, _, _, _, rfl, l15, e15, o215, vs15, fi15, tf15, co15, cp15, cq15, cr15⟩, ⟨_, cs15, ct_15⟩, ⟨_, cu15⟩, ztop, zopq⟩,
    Binds.all fun us hl => match us, hl with | [_], _ => rfl,
    k16,
    ⟨⟨_, _, _, _, _, _, _, _, _, _, rfl, l16, e16, o216, vs16, fi16, tf16, co16, cp16, cq16, cr16⟩, ⟨_, cs16, ct_16⟩, ⟨_, cu16⟩, ztop, zopq⟩,
    Binds.all fun us hl => match us, hl with | [_, _], _ => rfl,
    k17,
    F17,
    F17.binds (ps := ["body"]) fun _ _ _ _ _ _ us hl => match us, hl with | [_], _ => rfl,
    PySem.W.mg_of X G a17,
    k18,
    F18,
    F18.binds (ps := ["_law_numbers", "_law_k"]) fun _ _ _ _ _ _ us hl => match us, hl with | [_, _], _ => rfl,
    PySem.W.mg_of X G a18,
    k19,
    F19,
    F19.binds (ps := ["_law_number_here"]) fun _ _ _ _ _ _ us hl => match us, hl with | [_], _ => rfl,
    PySem.W.mg_of X G a19,
    k20,
    F20,
    F20.binds (ps := ["_law_source_here", "_law_many"]) fun _ _ _ _ _ _ us hl => match us, hl with | [_, _], _ => rfl,
    PySem.W.mg_of X G a20,
    k21,
    F21,
    F21.binds (ps := ["_law_source_here"]) fun _ _ _ _ _ _ us hl => match us, hl with | [_], _ => rfl,
    PySem.W.mg_of X G a21,
    k22,
    F22,
    F22.binds (ps := ["_law_source_here", "_law_many"]) fun _ _ _ _ _ _ us hl => match us, hl with | [_, _], _ => rfl,
    PySem.W.mg_of X G a22,
    k23,
    F23,
    F23.binds (ps := ["_law_tree"]) fun _ _ _ _ _ _ us hl => match us, hl with | [_], _ => rfl,
    PySem.W.mg_of X G a23,
    k24,
    F24,
    F24.binds (ps := ["_law_source_here", "_law_tree"]) fun _ _ _ _ _ _ us hl => match us, hl with | [_, _], _ => rfl,
    PySem.W.mg_of X G a24,
    k25,
    F25,
    F25.binds (ps := ["_law_source_here", "_law_names"]) fun _ _ _ _ _ _ us hl => match us, hl with | [_, _], _ => rfl,
    PySem.W.mg_of X G a25,
    k26,
    F26,
    F26.binds (ps := ["_law_source_here", "_law_names"]) fun _ _ _ _ _ _ us hl => match us, hl with | [_, _], _ => rfl,
    PySem.W.mg_of X G a26,
    k27,
    F27,
    F27.binds (ps := ["_law_thing"]) fun _ _ _ _ _ _ us hl => match us, hl with | [_], _ => rfl,
    PySem.W.mg_of X G a27,
    k28,
    F28,
    F28.binds (ps := ["_law_thing", "_law_tree", "_law_k"]) fun _ _ _ _ _ _ us hl => match us, hl with | [_, _, _], _ => rfl,
    PySem.W.mg_of X G a28,
    k29,
    F29,
    F29.binds (ps := ["_law_source_here"]) fun _ _ _ _ _ _ us hl => match us, hl with | [_], _ => rfl,
    PySem.W.mg_of X G a29,
    k30,
    F30,
    F30.binds (ps := ["_law_numbers"]) fun _ _ _ _ _ _ us hl => match us, hl with | [_], _ => rfl,
    PySem.W.mg_of X G a30,
    famC_of fb_ xg_ xt_,
    fun C h => famC_of (List.all_eq_true.mp fc_ C h) xg_ xt_,
    tab_of ft_ fun C h => famC_of (List.all_eq_true.mp fc_ C h) xg_ xt_,
    fun C h => sub_of fb_ (List.all_eq_true.mp fu_ C h),
    fun C h => beq_iff_eq.mp (List.all_eq_true.mp fy_ C h),
    fun C h => beq_iff_eq.mp (List.all_eq_true.mp fv_ C h),
    fun C h => ⟨(famC_of (List.all_eq_true.mp fc_ C h) xg_ xt_).cl, beq_iff_eq.mp (List.all_eq_true.mp fw5 C h), pg5, pt5, _, pr5⟩,
    fun C h => ⟨(famC_of (List.all_eq_true.mp fc_ C h) xg_ xt_).cl, beq_iff_eq.mp (List.all_eq_true.mp fw6 C h), pg6, pt6, _, pr6⟩,
    fun C h => ⟨beq_iff_eq.mp (List.all_eq_true.mp fw7 C h), i7⟩,
    fun C h => ⟨beq_iff_eq.mp (List.all_eq_true.mp fw8 C h), i8⟩,
    fun C h => ⟨beq_iff_eq.mp (List.all_eq_true.mp fw9 C h), i9⟩,
    fun C h => cread_of (List.all_eq_true.mp fx_ C h),
    ⟨_, wa_Look, ⟨_, rfl⟩, wg_Look, by decide +kernel⟩,
    ⟨_, wc_Look, ⟨_, rfl⟩⟩,
    ⟨_, wa_Put, ⟨_, rfl⟩, wg_Put, by decide +kernel⟩,
    ⟨_, wc_Put, ⟨_, rfl⟩⟩,
    ⟨_, wa_Swap, ⟨_, rfl⟩, wg_Swap, by decide +kernel⟩,
    ⟨_, wc_Swap, ⟨_, rfl⟩⟩,
    ⟨_, wa_Try, ⟨_, rfl⟩, wg_Try, by decide +kernel⟩,
    ⟨_, wc_Try, ⟨_, rfl⟩⟩,
    ⟨_, wa_Let, ⟨_, rfl⟩, wg_Let, by decide +kernel⟩,
    ⟨_, wc_Let, ⟨_, rfl⟩⟩,
    ⟨_, wa_Leave, ⟨_, rfl⟩, wg_Leave, by decide +kernel⟩,
    ⟨_, wc_Leave, ⟨_, rfl⟩⟩,
    ⟨_, wa_Return, ⟨_, rfl⟩, wg_Return, by decide +kernel⟩,
    ⟨_, wc_Return, ⟨_, rfl⟩⟩,
    ⟨_, wa_If, ⟨_, rfl⟩, wg_If, by decide +kernel⟩,
    ⟨_, wc_If, ⟨_, rfl⟩⟩,
    ⟨_, wa_Loop, ⟨_, rfl⟩, wg_Loop, by decide +kernel⟩,
    ⟨_, wc_Loop, ⟨_, rfl⟩⟩,
    ⟨_, wa_Joined, ⟨_, rfl⟩, wg_Joined, by decide +kernel⟩,
    ⟨_, wc_Joined, ⟨_, rfl⟩⟩,
    PySem.W.mg_of X G a_Statement,
    PySem.W.mg_of X G a_Look,
    ⟨mk_Look, a10, i10, kc_Look⟩,
    ⟨fun s us ws _ h1 h2 => match us, ws, h1, h2 with | [_], [_, _], _, _ => .of_eq rfl, kp_Look_rel⟩,
    PySem.W.mg_of X G a_Put,
    ⟨mk_Put, a11, i11, kc_Put⟩,
    ⟨fun s us ws _ h1 h2 => match us, ws, h1, h2 with | [_], [_, _], _, _ => .of_eq rfl, kp_Put_rel⟩,
    PySem.W.mg_of X G a_Swap,
    ⟨mk_Swap, a12, i12, kc_Swap⟩,
    ⟨fun s us ws _ h1 h2 => match us, ws, h1, h2 with | [_], [_, _, _], _, _ => .of_eq rfl, kp_Swap_rel⟩,
    PySem.W.mg_of X G a_Try,
    ⟨mk_Try, a13, i13, kc_Try⟩,
    ⟨fun s us ws _ h1 h2 => match us, ws, h1, h2 with | [_], [_, _, _, _], _, _ => .of_eq rfl, kp_Try_rel⟩,
    PySem.W.mg_of X G a_Let,
    ⟨mk_Let, a14, i14, kc_Let⟩,
    ⟨fun s us ws _ h1 h2 => match us, ws, h1, h2 with | [_], [_, _], _, _ => .of_eq rfl, kp_Let_rel⟩,
    PySem.W.mg_of X G a_If,
    PySem.W.mg_of X G a_Loop,
    PySem.W.mg_of X G a_Leave,
    ⟨mk_Leave, a15, i15, kc_Leave⟩,
    PySem.W.mg_of X G a_Return,
    ⟨mk_Return, a16, i16, kc_Return⟩,
    ⟨fun s us ws _ h1 h2 => match us, ws, h1, h2 with | [_], [_], _, _ => .of_eq rfl, kp_Return_rel⟩,
    PySem.W.mg_of X G a_Joined⟩, fun s v => .of_eq rfl⟩
end K03
set_option Elab.async false
set_option linter.all false
set_option maxRecDepth 100000
set_option maxHeartbeats 4000000
namespace K03
open PySem PySem.Spec PyProof.Rows L2 Mo
section
variable {w : World} {K : PySem.W.Frag} {mg : Str → Option Value} {base : Heap} {A : Ads}
theorem ok_law_take (T : Txt K mg A) : FnOk P w K mg base CX0 1 A.a_law_take A.d_law_take ["_law_source_here", "_law_many"] spTake := by
  have nd := sc_law_take.nd
  refine T.f_law_take.ok sc_law_take (fun vs H Q E h => ?_) (fun cdv A' outer s H vs Q E hr h => ?_)
  · obtain ⟨a, m, rfl, _⟩ := h
    rfl
  · obtain ⟨a, m, rfl, ⟨x, y, c, ha, x0, x1⟩, m0, m1, k⟩ := h
    refine ⟨_, (pss_cons (ps_asg (pe_op op_add (pe_ix ix_list (pv 0) pe_int (fun _ _ => rfl)) pe_int) (pg_sub (pv 0) pe_int set_list))
      (pss_cons (ps_if (pt_cmpR op_gt (pe_ix ix_list (pv 0) pe_int (fun _ _ => rfl)) pe_int (nomark _)) (pss_cons (ps_asg (pe_callB call_divmod (by rfl) T.b_divmod (by decide +kernel) (pa_cons (pe_ix ix_list (pv 0) pe_int (fun _ _ => rfl)) (pa_cons (pv 1) pa_nil))) (pg_tup rfl (pgs_cons (pg_sub (pv 0) pe_int set_list) (pgs_cons (pg_name (i := 3) nd rfl (Or.inl rfl)) pgs_nil))))
      (pss_one (ps_ret (pv 3)))) pss_nil)
      (pss_cons (ps_set (i := 2) nd rfl (Or.inl rfl) (pe_callTy call_int1 (by rfl) T.b_int (by decide +kernel) (pa_cons (pe_ix ix_list (pv 0) pe_int (fun _ _ => rfl)) pa_nil)))
      (pss_cons (ps_asg (pe_op op_mod (pe_callTy call_int1 (by rfl) T.b_int (by decide +kernel) (pa_cons (pe_op op_add (pe_op op_add (pe_op op_mul (pv 2) (pe_op op_add (pe_op op_fdiv (pv 2) pe_int) pe_int)) (pe_op op_mul pe_int (pe_ix ix_list (pv 0) pe_int (fun _ _ => rfl)))) pe_int) pa_nil)) pe_int) (pg_sub (pv 0) pe_int set_list))
      (pss_one (ps_ret (pe_op op_mod (pe_callTy call_int1 (by rfl) T.b_int (by decide +kernel) (pa_cons (pe_op op_fdiv (pe_ix ix_list (pv 0) pe_int (fun _ _ => rfl)) pe_int) pa_nil)) (pv 1)))))))), ?_⟩
    -- the count
    refine ⟨_, rfl, a, _, _, _, rfl, rfl, SqL.of ha, rfl, _, _, rfl, rfl, _, rfl, a, _, _, _, rfl, rfl, ha, rfl, ?_⟩
    -- are there figures
    refine ⟨_, rfl, a, _, _, _, rfl, rfl, SqL.of upd_same, rfl, _, _, rfl, rfl, _, rfl, ?_⟩
    refine ite2 (fun hy => ?_) (fun hy => ?_)
    · refine ⟨_, rfl, a, _, _, _, rfl, rfl, SqL.of upd_same, rfl, _, rfl, y, m, rfl, ⟨m0, m1⟩, ?_⟩
      intro p hp
      have npa : a ≠ p := ne_of_none upd_same hp
      refine ⟨p, _, rfl, SqT.of upd_same, rfl, ?_⟩
      refine ⟨_, _, rfl, _, rfl, a, _, _, _, rfl, rfl, (upd_ne npa).trans upd_same, rfl, _, _, rfl, rfl, ?_⟩
      refine ⟨_, rfl, ?_⟩
      refine k (y % m) _ (Int.emod_nonneg _ (by omega)) (Int.emod_lt_of_pos _ m0) ⟨x, y / m, c + 1, upd_same, x0, x1⟩ ?_
      intro b o hb e
      have hbp : b ≠ p := fun z => by
        subst z
        rw [upd_ne hb, e] at hp
        cases hp
      rw [upd_ne hb, upd_ne hbp, upd_ne hb]
      exact e
    · refine ⟨_, rfl, a, _, _, _, rfl, rfl, SqL.of upd_same, rfl, Or.inl ⟨x, rfl, ?_⟩⟩
      have x2 : 0 ≤ x / 7 := Int.ediv_nonneg x0 (by decide)
      refine ⟨_, rfl, _, rfl, _, _, rfl, rfl, ⟨by decide, by decide⟩, _, _, rfl, rfl, _, _, rfl, rfl, Or.inl ⟨by omega, by omega⟩,
        _, rfl, a, _, _, _, rfl, rfl, SqL.of upd_same, rfl, _, _, rfl, rfl, Or.inl ⟨by decide, by decide⟩, _, _, rfl, rfl, _, _, rfl, rfl, Or.inl ⟨_, rfl, ?_⟩⟩
      refine ⟨_, _, rfl, rfl, (by show (0 : Int) < 2147483587; decide), _, rfl, a, _, _, _, rfl, rfl, upd_same, rfl, ?_⟩
      refine ⟨_, rfl, a, _, _, _, rfl, rfl, SqL.of upd_same, rfl, _, _, rfl, rfl, ⟨by decide, by decide⟩, Or.inl ⟨_, rfl, ?_⟩⟩
      refine ⟨_, rfl, _, _, rfl, rfl, m0, ?_⟩
      refine k _ _ (Int.emod_nonneg _ (by omega)) (Int.emod_lt_of_pos _ m0) ⟨_, y, c + 1, upd_same, Int.emod_nonneg _ (by decide), ?_⟩ ?_
      · exact Int.le_of_lt (Int.emod_lt_of_pos _ (by decide))
      · intro b o hb e
        rw [upd_ne hb, upd_ne hb]
        exact e
theorem ok_law_source (T : Txt K mg A) : FnOk P w K mg base CX0 1 A.a_law_source A.d_law_source ["_law_number_here"] spSource := by
  have nd := sc_law_source.nd
  refine T.f_law_source.ok sc_law_source (fun vs H Q E h => ?_) (fun cdv A' outer s H vs Q E hr h => ?_)
  · obtain ⟨n, rfl, _⟩ := h
    rfl
  · obtain ⟨n, rfl, k⟩ := h
    refine ⟨_, (pss_cons (ps_set (i := 1) nd rfl (Or.inl rfl) (pe_ifExp (PW.pt (pw_or (pt_cmpR op_lt (pv 0) pe_int (nomark _)) (pw_or1 (pt_cmpR op_ge (pv 0) (pe_op op_pow pe_int pe_int) (nomark _))))) (pe_callB call_abs (by rfl) T.b_abs (by decide +kernel) (pa_cons (pv 0) pa_nil)) pe_int))
      (pss_one (ps_ret (pe_lst (pa_cons (pe_op op_add (pe_op op_mod (pe_callTy call_int1 (by rfl) T.b_int (by decide +kernel) (pa_cons (pe_callB call_abs (by rfl) T.b_abs (by decide +kernel) (pa_cons (pv 0) pa_nil)) pa_nil)) pe_int) pe_int) (pa_cons (pv 1) (pa_cons pe_int pa_nil))))))), ?_⟩
    have fin : ∀ y : Int, tRet (tLst (tCons (tOp (rI0 fun i j => V.int (i + j)) (tOp (rI (fun _ j => 0 < j) fun i j => .int (i % j)) (tCB (fun xs H Q => (∃ i, xs = [V.int i] ∧ Q (V.int i) H) ∨ ∃ k, xs = [V.bl k] ∧ Q (V.int (if k = true then 1 else 0)) H)
        (tCons (tCB (fun xs H Q => ∃ i, xs = [V.int i] ∧ Q (.int (if i < 0 then -i else i)) H) (tCons (tVar 0) tNil)) tNil)) (tC (.int 2147483587))) (tC (.int 1))) (tCons (tVar 1) (tCons (tC (.int 0)) tNil)))) { nx := fun _ H' => Q .non H', rt := Q } [some (.int n), some (.int y)] H := by
      intro y
      refine ⟨_, rfl, _, rfl, Or.inl ⟨_, rfl, _, _, rfl, rfl, (by show (0 : Int) < 2147483587; decide), _, _, rfl, rfl, _, rfl, (by show 3 ≤ sizeLine; decide), ?_⟩⟩
      intro p hp
      refine k p _ hp (same_new hp) ⟨_, _, _, upd_same, ?_, ?_⟩
      · have := Int.emod_nonneg (if n < 0 then -n else n) (show (2147483587 : Int) ≠ 0 by decide)
        omega
      · have := Int.emod_lt_of_pos (if n < 0 then -n else n) (show (0 : Int) < 2147483587 by decide)
        omega
    refine ⟨_, rfl, _, _, rfl, rfl, _, rfl, ?_⟩
    refine ite2 (fun _ => iteT ?_) (fun _ => ?_)
    · exact ⟨_, rfl, _, rfl, fin _⟩
    · refine ⟨_, rfl, _, _, rfl, rfl, ⟨by decide, by decide, by decide⟩, _, _, rfl, rfl, _, rfl, ?_⟩
      refine ite2 (fun _ => ?_) (fun _ => ?_)
      · exact ⟨_, rfl, _, rfl, fin _⟩
      · exact fin _
theorem ok_law_number (T : Txt K mg A) : FnOk P w K mg base CX0 1 A.a_law_number A.d_law_number ["_law_numbers", "_law_k"] (spNumber K) := by
  have nd := sc_law_number.nd
  refine T.f_law_number.ok sc_law_number (fun vs H Q E h => ?_) (fun cdv A' outer s H vs Q E hr h => ?_)
  · obtain ⟨a, ns, k, rfl, _⟩ := h
    rfl
  · obtain ⟨a, ns, i, rfl, hS, hb, i0, i1, k⟩ := h
    refine ⟨_, (pss_cons (ps_if (pt_cmpR op_lt (pv 1) (pe_callB call_len_seq (by rfl) T.b_len (by decide +kernel) (pa_cons (pv 0) pa_nil)) (nomark _)) (pss_one (ps_ret (pe_ix ix_list (pv 0) (pv 1) (fun _ _ => rfl)))) pss_nil)
      (pss_cons (ps_set (i := 2) nd rfl (Or.inl rfl) (pe_op op_add (pe_op op_add (pe_op op_mul (pe_op op_mul pe_int (pv 1)) (pv 1)) (pe_op op_mul pe_int (pv 1))) pe_int))
      (pss_cons (ps_for PassesOwn.never rfl (pi_list (pe_slice sl_list (pv 0) po_none (po_some pe_int))) (pg_name (i := 3) nd rfl (Or.inl rfl)) (pss_one (ps_set (i := 2) nd rfl (Or.inl rfl) (pe_op op_mod (pe_callTy call_int1 (by rfl) T.b_int (by decide +kernel) (pa_cons (pe_op op_add (pe_op op_add (pe_op op_mul (pv 2) pe_int) (pe_op op_mulX (pv 3) (pv 3))) (pv 1)) pa_nil)) pe_int))))
      (pss_one (ps_ret (pv 2)))))), ?_⟩
    refine ⟨_, rfl, _, rfl, a, _, rfl, Or.inl hS, _, _, rfl, rfl, _, rfl, ?_⟩
    refine ite2 (fun hi => ?_) (fun _ => ?_)
    · have hi := of_decide_eq_true hi
      rw [List.length_map] at hi
      obtain ⟨j, rfl⟩ := Int.eq_ofNat_of_zero_le i0
      have hj : j < ns.length := by omega
      refine ⟨_, rfl, _, rfl, a, _, _, V.int ns[j], rfl, rfl, hS, ?_, ?_⟩
      · refine atI_nat (by simp [hj])
      · exact k _ H (Same.refl H)
    · refine ⟨_, rfl, _, _, rfl, rfl, Or.inl ⟨by decide, by decide⟩, _, rfl, _, _, rfl, rfl, Or.inl ⟨by omega, by omega⟩, _, rfl, _, _, rfl, rfl, Or.inl ⟨by decide, by decide⟩, _, _, rfl, rfl, _, _, rfl, rfl, ?_⟩
      refine ⟨_, rfl, _, rfl, a, _, rfl, hS, ?_⟩
      intro p hp
      have hp2 : (upd H p (.lst (cutV (ns.map V.int) none (some 5)))) p = some (.lst (cutV (ns.map V.int) none (some 5))) := upd_same
      refine ⟨p, rfl, ⟨_, SqL.of hp2⟩, for_list (K := K) (a := p) (xs := cutV (ns.map V.int) none (some 5)) (fun _ σ H2 => H2 = upd H p (.lst (cutV (ns.map V.int) none (some 5))) ∧
        ∃ (z : Int) (v : Option V), z < 2 ^ 60 ∧ -(2 ^ 60) < z ∧ σ = [some (.ref a), some (.int i), some (.int z), v]) ⟨rfl, _, none, ?_, ?_, rfl⟩ (fun _ _ H2 _ h => by rw [h.1]; exact SqL.of hp2) ?_ ?_⟩
      · show 7919 * i * i + 4099 * i + 17 < 2 ^ 60
        have e : 7919 * i * i ≤ 7919 * 1000 * 1000 := Int.mul_le_mul (Int.mul_le_mul_of_nonneg_left i1 (by decide)) i1 i0 (by decide)
        omega
      · show -(2 ^ 60) < 7919 * i * i + 4099 * i + 17
        have e : 0 ≤ 7919 * i * i := Int.mul_nonneg (Int.mul_nonneg (by decide) i0) i0
        omega
      · rintro j x σ H2 hx ⟨rfl, z, v, z0, z1, rfl⟩
        obtain ⟨n, rfl, hn⟩ : ∃ n, x = V.int n ∧ n ∈ ns := by
          have hm := List.mem_of_mem_drop (List.mem_of_mem_take (List.mem_of_getElem? hx))
          obtain ⟨n, h1, h2⟩ := List.mem_map.mp hm
          exact ⟨n, h2.symm, h1⟩
        have hbn := hb n hn
        refine ⟨_, rfl, _, _, rfl, rfl, Or.inl ⟨by omega, by omega⟩, _, rfl, _, rfl, _, _, rfl, rfl, (by unfold CMulX; omega), _, _, rfl, rfl, _, rfl, _, _, rfl, rfl, Or.inl ⟨_, rfl, ?_⟩⟩
        refine ⟨_, _, rfl, rfl, (by show (0 : Int) < 2147483587; decide), ?_⟩
        refine ⟨rfl, _, _, ?_, ?_, rfl⟩
        · have := Int.emod_lt_of_pos (z * 60013 + n * n + i) (show (0 : Int) < 2147483587 by decide)
          show (z * 60013 + n * n + i) % 2147483587 < 2 ^ 60
          omega
        · have := Int.emod_nonneg (z * 60013 + n * n + i) (show (2147483587 : Int) ≠ 0 by decide)
          show -(2 ^ 60) < (z * 60013 + n * n + i) % 2147483587
          omega
      · rintro σ H2 ⟨rfl, z, v, _, _, rfl⟩
        exact ⟨_, rfl, k _ _ (same_new hp)⟩
end
end K03
set_option Elab.async false
set_option linter.all false
set_option maxRecDepth 100000
set_option maxHeartbeats 4000000
namespace K03
open PySem PySem.Spec PyProof.Rows L2 Mo
/-! ### what the checks tell -/
def isIntV : V → Bool | .int _ => true | _ => false
def isMarkV : V → Bool | .int i => decide (0 ≤ i) | _ => false
def lets : List Nat := ("abcdefghijklmnopqrstuvwxyz" : Str).cps.toList
def sgns : List Nat := ("abcdefghijklmnopqrstuvwxyz0123456789" : Str).cps.toList
def fixedB (z : Str) : Bool := decide (z = "nothing") || decide (z = "yes")
def nameB (z : Str) : Bool := decide (0 < z.length) && decide (z.length ≤ 8) && !fixedB z && decide (z.cps.toList.headD 0 ∈ lets) && z.cps.toList.all (fun c => decide (c ∈ sgns))
def isNameV : V → Bool | .str z => nameB z | _ => false
def isOperV : V → Bool | .str z => fixedB z || nameB z | _ => false
def isValV : V → Bool | .non => true | .str z => decide (z = "yes") | .int i => decide (0 ≤ i) | _ => false
theorem inV_fixed (z : Str) : inV (.str z) [.str "nothing", .str "yes"] = fixedB z := by
  rw [show [V.str "nothing", V.str "yes"] = (["nothing", "yes"] : List Str).map V.str from rfl, inV_strs]
  unfold fixedB
  rw [Bool.eq_iff_iff]
  simp
/-- a check of a thing: a truth -/
def spTell (f : V → Bool) : Sp := fun vs H Q _ => ∃ (v : V) (n : Ty7), vs = [v] ∧ Th H v n ∧ ∀ H', Same H H' → Q (.bl (f v)) H'
section
variable {w : World} {K : PySem.W.Frag} {mg : Str → Option Value} {base : Heap} {A : Ads}
theorem ok_is_name (T : Txt K mg A) : FnOk P w K mg base CX0 1 A.a_is_name A.d_is_name ["value"] (spTell isNameV) := by
  have nd := sc_is_name.nd
  refine T.f_is_name.ok sc_is_name (fun vs H Q E h => ?_) (fun cdv A' outer s H vs Q E hr h => ?_)
  · obtain ⟨v, n, rfl, _⟩ := h
    rfl
  · obtain ⟨v, n, rfl, th, k⟩ := h
    refine ⟨_, (pss_cons (ps_if (PW.pt (pw_or (pt_not (pt_val (pe_callB call_isi (by rfl) T.b_isinstance (by decide +kernel) (pa_cons (pv 0) (pa_cons (pe_ty "str" T.b_str) pa_nil))))) (pw_or (pt_not (pt_chain op_lt op_le pe_int (pe_callB call_len_str (by rfl) T.b_len (by decide +kernel) (pa_cons (pv 0) pa_nil)) (pe_gI T.c_LONGEST))) (pw_or1 (pt_cmpR op_in_seq (pv 0) (pe_tup (pa_cons (pe_gS T.c_NOTHING) (pa_cons (pe_gS T.c_YES) pa_nil))) (by rfl)))))) (pss_one (ps_ret pe_bl)) pss_nil)
      (pss_one (ps_ret (pe_and (pe_cmpR op_in_sign (pe_ix ix_str (pv 0) pe_int (fun _ _ => rfl)) (pe_gS T.c_LETTERS) (by rfl)) (pe_one (pe_callB (cr_all rfl) (by rfl) T.b_all (by decide +kernel) (pa_cons (pe_lc (own := [("sign", 1)]) (g := gName 1) (tt := tYes) rfl nd (pi_str (pv 0)) (blkOk_by (N := nm_is_name) (sc := defScope st_is_name) (by decide +kernel)) (fun _ _ _ _ _ => (pg_name (i := 1) nd rfl (Or.inl rfl))) (fun _ _ _ _ _ => pts_nil) (fun _ _ _ _ _ => (pe_cmpR op_in_sign (pv 1) (pe_gS T.c_SIGNS) (by rfl)))) pa_nil)))))))
      , ?_⟩
    have q := k H (Same.refl H)
    refine ⟨_, rfl, v, _, _, _, _, rfl, .ty _, th.ty, kit7 n .str (by decide), _, rfl, ?_⟩
    cases th with
    | str z hz ha =>
      refine iteF ?_
      have hz2 := len5000 hz
      refine ⟨_, rfl, z, rfl, hz2, _, _, rfl, rfl, _, rfl, ?_⟩
      refine ite2 (fun h0 => ?_) (fun h0 => ?_)
      · have h0 := of_decide_eq_true h0
        refine ⟨_, _, rfl, rfl, _, rfl, ?_⟩
        refine ite2 (fun h1 => ?_) (fun h1 => ?_)
        · have e : nameB z = false := by
            unfold nameB
            have h2 : (8 : Int) < z.length := by simpa using h1
            have : ¬ z.length ≤ 8 := by omega
            simp [this]
          refine iteT ?_
          show Q (.bl false) H
          rw [show isNameV (V.str z) = nameB z from rfl, e] at q
          exact q
        · have h1 : z.length ≤ 8 := by
            have : decide ((z.length : Int) ≤ 8) = true := by simpa using h1
            have := of_decide_eq_true this
            omega
          refine ⟨_, rfl, (by show 2 ≤ sizeLine; decide), fun p hp => ⟨p, _, rfl, Or.inr (SqT.of upd_same), rfl, rfl, _, rfl, ?_⟩⟩
          have q2 := k _ (same_new (o := .tup [.str "nothing", .str "yes"]) hp)
          have fx : inV (.str z) [.str "nothing", .str "yes"] = fixedB z := inV_fixed z
          refine ite2 (fun h2 => ?_) (fun h2 => ?_)
          · have h2 : inV (.str z) [.str "nothing", .str "yes"] = true := h2
            have e : nameB z = false := by
              unfold nameB
              rw [← fx, h2]
              simp
            show Q (.bl false) _
            rw [show isNameV (V.str z) = nameB z from rfl, e] at q2
            exact q2
          · have h2 : ¬ inV (.str z) [.str "nothing", .str "yes"] = true := h2
            have h2 := Bool.eq_false_iff.mpr h2
            rw [fx] at h2
            have hh : ∃ c l, z.cps.toList = c :: l := by
              cases e : z.cps.toList with
              | nil =>
                have : z.length = 0 := by
                  show z.cps.size = 0
                  rw [← Array.length_toList, e]
                  rfl
                omega
              | cons c l => exact ⟨c, l, rfl⟩
            obtain ⟨c, l, ecl⟩ := hh
            refine ⟨_, rfl, z, _, c, rfl, rfl, hz2, atI_nat (j := 0) (by rw [ecl]; rfl), c, _, rfl, rfl, _, rfl, ?_⟩
            have e0 : nameB z = (decide (c ∈ lets) && z.cps.toList.all (fun c => decide (c ∈ sgns))) := by
              unfold nameB
              have hp : 0 < z.length := by omega
              rw [h2, decide_eq_true hp, decide_eq_true h1, ecl]
              simp
            rw [show isNameV (V.str z) = nameB z from rfl, e0] at k q2
            refine ite2 (fun h3 => ?_) (fun h3 => ?_)
            · have h3 : decide (c ∈ lets) = true := h3
              refine ⟨_, rfl, z, rfl, fun D hD => lc_it walk_str (fun i H2 => i ≤ z.cps.size ∧ Same H H2 ∧ H2 D = some (.lst ((z.cps.toList.take i).map fun c => V.bl (decide (c ∈ sgns))))) ⟨Nat.zero_le _, ?_, upd_same⟩ (fun _ _ _ _ => trivial) ?_ ?_⟩
              · exact (same_new hp).trans (same_new hD)
              · rintro i x H1 H2 hi ⟨_, sm, hd⟩ ⟨rfl, c2, hc, rfl⟩
                have hlen : ((z.cps.toList.take i).map fun c => V.bl (decide (c ∈ sgns))).length < sizeLine := by
                  rw [List.length_map, List.length_take]
                  exact lt5000 (Nat.lt_of_le_of_lt (Nat.min_le_left _ _) (Nat.lt_of_lt_of_le hi hz))
                refine ⟨rfl, _, rfl, c2, _, rfl, rfl, _, hd, hlen, hi, ?_, ?_⟩
                · intro b o e
                  have hb : b ≠ D := ne_of_none e ((same_new hp).free hD)
                  rw [upd_ne hb]
                  exact sm b o e
                · rw [upd_same]
                  have hc2 : z.cps.toList[i]? = some c2 := by simpa using hc
                  rw [List.take_add_one, hc2, List.map_append]
                  rfl
              · rintro H2 ⟨_, sm, hd⟩
                refine ⟨D, z.cps.toList.map fun c => decide (c ∈ sgns), rfl, SqL.of ?_, ?_⟩
                · rw [hd]
                  congr 2
                  rw [List.map_map, List.take_of_length_le (by simp)]
                  rfl
                · have := k H2 sm
                  rw [h3, Bool.true_and] at this
                  rw [List.all_map]
                  exact this
            · have h3 : ¬ decide (c ∈ lets) = true := h3
              have h3 := Bool.eq_false_iff.mpr h3
              show Q (.bl false) _
              rw [h3, Bool.false_and] at q2
              exact q2
      · have e : nameB z = false := by
          unfold nameB
          have : ¬ 0 < z.length := by simpa using h0
          simp [this]
        refine ⟨_, rfl, iteT (iteT ?_)⟩
        show Q (.bl false) H
        rw [show isNameV (V.str z) = nameB z from rfl, e] at q
        exact q
    | _ => exact iteT (iteT q)
theorem ok_is_operand (T : Txt K mg A) : FnOk P w K mg base CX0 2 A.a_is_operand A.d_is_operand ["value"] (spTell isOperV) := by
  have nd := sc_is_operand.nd
  refine T.f_is_operand.ok sc_is_operand (fun vs H Q E h => ?_) (fun cdv A' outer s H vs Q E hr h => ?_)
  · obtain ⟨v, n, rfl, _⟩ := h
    rfl
  · obtain ⟨v, n, rfl, th, k⟩ := h
    refine ⟨_, (pss_one (ps_ret (pe_and (pe_callB call_isi (by rfl) T.b_isinstance (by decide +kernel) (pa_cons (pv 0) (pa_cons (pe_ty "str" T.b_str) pa_nil))) (pe_one (pe_or (pe_cmpR op_in_seq (pv 0) (pe_tup (pa_cons (pe_gS T.c_NOTHING) (pa_cons (pe_gS T.c_YES) pa_nil))) (by rfl)) (pe_one (pe_call (ok_is_name T) (hr.mono (by decide)) (by rfl) T.m_is_name T.k_is_name T.v_is_name .nil pass0 (pa_cons (pv 0) pa_nil)))))))), ?_⟩
    have q := k H (Same.refl H)
    refine ⟨_, rfl, v, _, _, _, _, rfl, .ty _, th.ty, kit7 n .str (by decide), _, rfl, ?_⟩
    cases th with
    | str z hz ha =>
      refine iteT ?_
      refine ⟨_, rfl, (by show 2 ≤ sizeLine; decide), fun p hp => ⟨p, _, rfl, Or.inr (SqT.of upd_same), rfl, rfl, _, rfl, ?_⟩⟩
      have sm := same_new (o := .tup [.str "nothing", .str "yes"]) hp
      have fx : inV (.str z) [.str "nothing", .str "yes"] = fixedB z := inV_fixed z
      refine ite2 (fun h2 => ?_) (fun h2 => ?_)
      · have h2 : inV (.str z) [.str "nothing", .str "yes"] = true := h2
        have q2 := k _ sm
        rw [show isOperV (V.str z) = (fixedB z || nameB z) from rfl, ← fx, h2, Bool.true_or] at q2
        exact q2
      · have h2 : ¬ inV (.str z) [.str "nothing", .str "yes"] = true := h2
        have h2 := Bool.eq_false_iff.mpr h2
        refine ⟨_, rfl, .str z, .str, rfl, .str z hz ha, fun H' e => ?_⟩
        have q2 := k _ (sm.trans e)
        rw [show isOperV (V.str z) = (fixedB z || nameB z) from rfl, ← fx, h2, Bool.false_or] at q2
        exact q2
    | _ => exact iteF q
def spCk (f : V → Bool) : Sp := fun vs H Q _ => ∃ (v : V) (n : Ty7), vs = [v] ∧ Th H v n ∧ f v = true ∧ ∀ H', Same H H' → Q .non H'
theorem ok_check_name (T : Txt K mg A) : FnOk P w K mg base CX0 2 A.a_check_name A.d_check_name ["value"] (spCk isNameV) := by
  have nd := sc_check_name.nd
  refine T.f_check_name.ok sc_check_name (fun vs H Q E h => ?_) (fun cdv A' outer s H vs Q E hr h => ?_)
  · obtain ⟨v, n, rfl, _⟩ := h
    rfl
  · obtain ⟨v, n, rfl, th, hf, k⟩ := h
    refine ⟨_, (pss_one (ps_if (pt_not (pt_val (pe_call (ok_is_name T) (hr.mono (by decide)) (by rfl) T.m_is_name T.k_is_name T.v_is_name .nil pass0 (pa_cons (pv 0) pa_nil)))) (pss_one ps_never) pss_nil)), ?_⟩
    refine ⟨_, rfl, v, n, rfl, th, fun H1 s1 => ⟨_, rfl, ?_⟩⟩
    rw [hf]
    exact iteF (k H1 s1)
theorem ok_check_operand (T : Txt K mg A) : FnOk P w K mg base CX0 3 A.a_check_operand A.d_check_operand ["value"] (spCk isOperV) := by
  have nd := sc_check_operand.nd
  refine T.f_check_operand.ok sc_check_operand (fun vs H Q E h => ?_) (fun cdv A' outer s H vs Q E hr h => ?_)
  · obtain ⟨v, n, rfl, _⟩ := h
    rfl
  · obtain ⟨v, n, rfl, th, hf, k⟩ := h
    refine ⟨_, (pss_one (ps_if (pt_not (pt_val (pe_call (ok_is_operand T) (hr.mono (by decide)) (by rfl) T.m_is_operand T.k_is_operand T.v_is_operand .nil pass0 (pa_cons (pv 0) pa_nil)))) (pss_one ps_never) pss_nil)), ?_⟩
    refine ⟨_, rfl, v, n, rfl, th, fun H1 s1 => ⟨_, rfl, ?_⟩⟩
    rw [hf]
    exact iteF (k H1 s1)
end
end K03
set_option Elab.async false
set_option linter.all false
set_option maxRecDepth 100000
set_option maxHeartbeats 4000000
namespace K03
open PySem PySem.Spec PyProof.Rows L2 Mo
/-! ### what stays: tuples, and objects that are made -/
structure KpT (H H' : Hp) : Prop where
  t : ∀ x xs, H x = some (.tup xs) → H' x = some (.tup xs)
  f : ∀ x o xs, H x = some (.frz o (.tup xs)) → H' x = some (.frz o (.tup xs))
  i : ∀ x C dx fs, H x = some (.ins C dx fs) → fs ≠ [] → H' x = some (.ins C dx fs)
theorem KpT.of_same {H H' : Hp} (e : Same H H') : KpT H H' := ⟨fun _ _ => e _ _, fun _ _ _ => e _ _, fun _ _ _ _ h _ => e _ _ h⟩
theorem KpT.trans {H H1 H2 : Hp} (a : KpT H H1) (b : KpT H1 H2) : KpT H H2 := ⟨fun x xs h => b.t _ _ (a.t _ _ h), fun x o xs h => b.f _ _ _ (a.f _ _ _ h), fun x C dx fs h n => b.i _ _ _ _ (a.i _ _ _ _ h n) n⟩
theorem KpT.lst {H H' : Hp} {a : Addr} {xs : List V} (h : H a = some (.lst xs)) (k : KeepBut a H H') : KpT H H' :=
  ⟨fun x xs e => k _ _ (ne_of e h (by intro z; cases z)) e, fun x o xs e => k _ _ (ne_of e h (by intro z; cases z)) e, fun x C dx fs e _ => k _ _ (ne_of e h (by intro z; cases z)) e⟩
theorem KpT.new {H H' : Hp} {a C dx : Addr} (h : H a = some (.ins C dx [])) (k : KeepBut a H H') : KpT H H' :=
  ⟨fun x xs e => k _ _ (ne_of e h (by intro z; cases z)) e, fun x o xs e => k _ _ (ne_of e h (by intro z; cases z)) e, fun x C dx fs e n => k _ _ (ne_of e h (by intro z; cases z; exact n rfl)) e⟩
theorem KpT.free {H H' : Hp} {a : Addr} (h : H a = none) (k : KeepBut a H H') : KpT H H' := KpT.of_same fun b o e => k b o (ne_of_none e h) e
theorem KpT.sq {K : PySem.W.Frag} {H H' : Hp} {p : Addr} {xs : List V} (k : KpT H H') (h : SqT K H p xs) : SqT K H' p xs := by
  rcases h with (h | ⟨o, h⟩) | h
  · exact .inl (.inl (k.t _ _ h))
  · exact .inl (.inr ⟨o, k.f _ _ _ h⟩)
  · exact .inr h
/-! ### statements -/
def RowsOk (am lv : Nat) (rows : List Str) : Prop := 1 ≤ am ∧ am ≤ 40 ∧ 1 ≤ lv ∧ lv ≤ 5 ∧ 1 ≤ rows.length ∧ rows.length ≤ 2 * am ∧ ∀ r ∈ rows, r.length ≤ 200 + 2 * lv ∧ AlnT r
/-- what is told of a statement: the number of its kind, amount, level, rows -/
structure Sd where
  k : Nat
  am : Nat
  lv : Nat
  rows : List Str
/-- a statement at p, its bodies bs and os -/
def StAt (K : PySem.W.Frag) (A : Ads) (H : Hp) (p : Addr) (d : Sd) (bs os : List Addr) : Prop := ∃ (C dx : Addr) (fs : List (Str × V)) (ps pr pb po : Addr), A.fam[d.k]? = some C ∧ H p = some (.ins C dx fs) ∧ fs.lookup ("size" : Str) = some (.ref ps) ∧ H ps = some (.tup [.int d.am, .int d.lv]) ∧
  fs.lookup ("rows" : Str) = some (.ref pr) ∧ H pr = some (.tup (d.rows.map V.str)) ∧ fs.lookup ("body" : Str) = some (.ref pb) ∧ SqT K H pb (bs.map V.ref) ∧ fs.lookup ("otherwise" : Str) = some (.ref po) ∧ SqT K H po (os.map V.ref) ∧ fs.lookup ("WORD" : Str) = none ∧ RowsOk d.am d.lv d.rows
theorem StAt.mv {K : PySem.W.Frag} {A : Ads} {H H' : Hp} {p : Addr} {d : Sd} {bs os : List Addr} (h : StAt K A H p d bs os) (k : KpT H H') : StAt K A H' p d bs os := by
  obtain ⟨C, dx, fs, ps, pr, pb, po, h1, h2, h3, h4, h5, h6, h7, h8, h9, h10, h11, h12⟩ := h
  have n : fs ≠ [] := by
    intro z
    subst z
    cases h3
  exact ⟨C, dx, fs, ps, pr, pb, po, h1, k.i _ _ _ _ h2 n, h3, k.t _ _ h4, h5, k.t _ _ h6, h7, k.sq h8, h9, k.sq h10, h11, h12⟩
theorem StAt.ok {K : PySem.W.Frag} {A : Ads} {H : Hp} {p : Addr} {d : Sd} {bs os : List Addr} (h : StAt K A H p d bs os) : RowsOk d.am d.lv d.rows := by
  obtain ⟨C, dx, fs, ps, pr, pb, po, h1, h2, h3, h4, h5, h6, h7, h8, h9, h10, h11, h12⟩ := h
  exact h12
/-- parts: some statements -/
def PartsAt (K : PySem.W.Frag) (A : Ads) (H : Hp) (qs : List (Addr × Sd)) : Prop := ∀ q ∈ qs, ∃ bs os, StAt K A H q.1 q.2 bs os
theorem PartsAt.mv {K : PySem.W.Frag} {A : Ads} {H H' : Hp} {qs : List (Addr × Sd)} (h : PartsAt K A H qs) (k : KpT H H') : PartsAt K A H' qs := fun q hq => let ⟨bs, os, h⟩ := h q hq; ⟨bs, os, h.mv k⟩
def refsOf (qs : List (Addr × Sd)) : List V := qs.map fun q => V.ref q.1
def flatR (qs : List (Addr × Sd)) : List Str := qs.flatMap fun q => q.2.rows
def ind (rs : List Str) : List Str := rs.map fun r => "  " ++ r
def sumA (qs : List (Addr × Sd)) : Nat := (qs.map fun q => q.2.am).sum
def maxL (qs : List (Addr × Sd)) : Nat := (qs.map fun q => q.2.lv).foldr max 0
/-- the rows of a statement by its first line and its bodies -/
def rowsOf (line : Str) (bs os : List (Addr × Sd)) : List Str := line :: (ind (flatR bs) ++ (if os = [] then [] else ("else" : Str) :: ind (flatR os)))
theorem flatR_len {K : PySem.W.Frag} {A : Ads} {H : Hp} : ∀ {qs : List (Addr × Sd)}, PartsAt K A H qs → (flatR qs).length ≤ 2 * sumA qs
  | [], _ => Nat.le_refl _
  | q :: qs, h => by
    have h1 := flatR_len (qs := qs) fun x hx => h x (List.mem_cons_of_mem _ hx)
    obtain ⟨bs, os, hq⟩ := h q List.mem_cons_self
    obtain ⟨_, _, _, _, _, h2, _⟩ := hq.ok
    have e1 : flatR (q :: qs) = q.2.rows ++ flatR qs := rfl
    have e2 : sumA (q :: qs) = q.2.am + sumA qs := by simp [sumA]
    rw [e1, e2, List.length_append]
    omega
theorem flatR_row {K : PySem.W.Frag} {A : Ads} {H : Hp} : ∀ {qs : List (Addr × Sd)}, PartsAt K A H qs → ∀ r ∈ flatR qs, r.length ≤ 200 + 2 * maxL qs ∧ AlnT r
  | [], _ => fun r h => (List.not_mem_nil h).elim
  | q :: qs, h => by
    intro r hr
    have h1 := flatR_row (qs := qs) fun x hx => h x (List.mem_cons_of_mem _ hx)
    obtain ⟨bs, os, hq⟩ := h q List.mem_cons_self
    obtain ⟨_, _, _, _, _, _, h2⟩ := hq.ok
    have e2 : maxL (q :: qs) = max q.2.lv (maxL qs) := rfl
    rw [e2]
    rcases List.mem_append.mp (show r ∈ q.2.rows ++ flatR qs from hr) with hr | hr
    · have := h2 r hr
      exact ⟨by omega, this.2⟩
    · have := h1 r hr
      exact ⟨by omega, this.2⟩
theorem len_sumA {K : PySem.W.Frag} {A : Ads} {H : Hp} : ∀ {qs : List (Addr × Sd)}, PartsAt K A H qs → qs.length ≤ sumA qs
  | [], _ => Nat.le_refl _
  | q :: qs, h => by
    have h1 := len_sumA (qs := qs) fun x hx => h x (List.mem_cons_of_mem _ hx)
    obtain ⟨bs, os, hq⟩ := h q List.mem_cons_self
    obtain ⟨h2, _⟩ := hq.ok
    have e2 : sumA (q :: qs) = q.2.am + sumA qs := by simp [sumA]
    rw [e2, List.length_cons]
    omega
theorem sumA_app (a b : List (Addr × Sd)) : sumA (a ++ b) = sumA a + sumA b := by simp [sumA]
theorem maxL_app : ∀ a b : List (Addr × Sd), maxL (a ++ b) = max (maxL a) (maxL b)
  | [], b => by simp [maxL]
  | q :: a, b => by
    have := maxL_app a b
    have e1 : maxL (q :: a ++ b) = max q.2.lv (maxL (a ++ b)) := rfl
    have e2 : maxL (q :: a) = max q.2.lv (maxL a) := rfl
    rw [e1, e2, this]
    omega
theorem maxL_mem : ∀ qs : List (Addr × Sd), (∀ q ∈ qs, q.2.lv ≤ maxL qs) ∧ (qs ≠ [] → ∃ q ∈ qs, q.2.lv = maxL qs)
  | [] => ⟨fun q h => (List.not_mem_nil h).elim, fun n => absurd rfl n⟩
  | q :: qs => by
    obtain ⟨h1, h2⟩ := maxL_mem qs
    have e : maxL (q :: qs) = max q.2.lv (maxL qs) := rfl
    constructor
    · intro x hx
      rw [e]
      rcases List.mem_cons.mp hx with rfl | hx
      · omega
      · have := h1 x hx
        omega
    · intro _
      rw [e]
      by_cases hq : qs = []
      · subst hq
        exact ⟨q, List.mem_cons_self, by simp [maxL]⟩
      · obtain ⟨x, hx, ex⟩ := h2 hq
        by_cases hle : q.2.lv ≤ maxL qs
        · exact ⟨x, List.mem_cons_of_mem _ hx, by omega⟩
        · exact ⟨q, List.mem_cons_self, by omega⟩
theorem aln_app {x y : Str} (hx : AlnT x) (hy : AlnT y) : AlnT (x ++ y) := by
  intro c hc
  have hc : c ∈ (x ++ y).cps.toList := hc
  rw [cps_app] at hc
  exact (List.mem_append.mp hc).elim (hx c) (hy c)
theorem aln_by {x : Str} (h : x.cps.toList.all Aln = true) : AlnT x := fun c hc => List.all_eq_true.mp h c hc
theorem AlnT.asc {x : Str} (h : AlnT x) : Asc x := fun c hc => aln_lt (h c hc)
theorem asc_sp {r : Str} (h : AlnT r) : AlnT ("  " ++ r) := aln_app (aln_by (by decide +kernel)) h
theorem emp_app (x : Str) : Str.empty ++ x = x := by
  have : (Str.empty ++ x).cps = x.cps := by
    apply Array.ext'
    rw [cps_app]
    rfl
  cases x
  exact congrArg Str.mk this
theorem rowsOf_ok {K : PySem.W.Frag} {A : Ads} {H : Hp} {line : Str} {bs os : List (Addr × Sd)} (hl : line.length ≤ 200) (ha : AlnT line) (hb : PartsAt K A H bs) (ho : PartsAt K A H os) (h40 : sumA bs + sumA os ≤ 39) (h5 : maxL (bs ++ os) ≤ 4) :
    RowsOk (1 + (sumA bs + sumA os)) (1 + maxL (bs ++ os)) (rowsOf line bs os) := by
  have b1 := flatR_len hb
  have o1 := flatR_len ho
  have b2 := flatR_row hb
  have o2 := flatR_row ho
  rw [maxL_app] at h5 ⊢
  have ip : ∀ (rs : List Str) (n : Nat), (∀ r ∈ rs, r.length ≤ n ∧ AlnT r) → ∀ r ∈ ind rs, r.length ≤ n + 2 ∧ AlnT r := by
    intro rs n h r hr
    obtain ⟨x, hx, rfl⟩ := List.mem_map.mp hr
    refine ⟨?_, asc_sp (h x hx).2⟩
    rw [app_length]
    have := (h x hx).1
    have e : ("  " : Str).length = 2 := rfl
    omega
  refine ⟨by omega, by omega, by omega, by omega, ?_, ?_, ?_⟩
  · unfold rowsOf
    rw [List.length_cons]
    omega
  · unfold rowsOf ind
    by_cases e : os = []
    · rw [if_pos e, List.length_cons, List.length_append, List.length_map]
      simp
      omega
    · rw [if_neg e, List.length_cons, List.length_append, List.length_map, List.length_cons, List.length_map]
      have : 1 ≤ os.length := by
        cases os with
        | nil => exact absurd rfl e
        | cons a l => simp
      have := len_sumA ho
      omega
  · intro r hr
    rcases List.mem_cons.mp (show r ∈ line :: _ from hr) with rfl | hr
    · exact ⟨by omega, ha⟩
    · rcases List.mem_append.mp hr with hr | hr
      · have := ip _ _ b2 r hr
        exact ⟨by omega, this.2⟩
      · by_cases e : os = []
        · rw [if_pos e] at hr
          exact (List.not_mem_nil hr).elim
        · rw [if_neg e] at hr
          rcases List.mem_cons.mp hr with rfl | hr
          · refine ⟨?_, aln_by (by decide +kernel)⟩
            show 4 ≤ _
            omega
          · have := ip _ _ o2 r hr
            exact ⟨by omega, this.2⟩
section
variable {w : World} {K : PySem.W.Frag} {mg : Str → Option Value} {base : Heap} {A : Ads}
def spGet (K : PySem.W.Frag) (A : Ads) (f : Sd → Nat) : Sp := fun vs H Q _ => ∃ p d bs os, vs = [.ref p] ∧ StAt K A H p d bs os ∧ Q (.int (f d : Nat)) H
theorem ok_Statement_amount (T : Txt K mg A) : FnOk P w K mg base CX0 1 A.a_Statement_amount A.d_Statement_amount ["self"] (spGet K A Sd.am) := by
  have nd := sc_Statement_amount.nd
  refine T.f_Statement_amount.ok sc_Statement_amount (fun vs H Q E h => ?_) (fun cdv A' outer s H vs Q E hr h => ?_)
  · obtain ⟨p, d, bs, os, rfl, _⟩ := h
    rfl
  · obtain ⟨p, d, bs, os, rfl, ⟨C, dx, fs, ps, pr, pb, po, h1, h2, h3, h4, h5, h6, h7, h8, h9, h10, h11, h12⟩, k⟩ := h
    have fc := T.fam C (List.mem_of_getElem? h1)
    refine ⟨_, (pss_one (ps_ret (pe_ix ix_tup (pe_fld (pv 0) rfl) pe_int (fun _ _ => rfl)))), ?_⟩
    exact ⟨_, rfl, p, C, dx, fs, _, rfl, h2, fc.cl, fc.na _ (by decide +kernel), h3, ps, _, _, _, rfl, rfl, SqT.of h4, atI_nat (j := 0) rfl, k⟩
theorem ok_Statement_level (T : Txt K mg A) : FnOk P w K mg base CX0 1 A.a_Statement_level A.d_Statement_level ["self"] (spGet K A Sd.lv) := by
  have nd := sc_Statement_level.nd
  refine T.f_Statement_level.ok sc_Statement_level (fun vs H Q E h => ?_) (fun cdv A' outer s H vs Q E hr h => ?_)
  · obtain ⟨p, d, bs, os, rfl, _⟩ := h
    rfl
  · obtain ⟨p, d, bs, os, rfl, ⟨C, dx, fs, ps, pr, pb, po, h1, h2, h3, h4, h5, h6, h7, h8, h9, h10, h11, h12⟩, k⟩ := h
    have fc := T.fam C (List.mem_of_getElem? h1)
    refine ⟨_, (pss_one (ps_ret (pe_ix ix_tup (pe_fld (pv 0) rfl) pe_int (fun _ _ => rfl)))), ?_⟩
    exact ⟨_, rfl, p, C, dx, fs, _, rfl, h2, fc.cl, fc.na _ (by decide +kernel), h3, ps, _, _, _, rfl, rfl, SqT.of h4, atI_nat (j := 1) rfl, k⟩
def spIndent (K : PySem.W.Frag) (A : Ads) : Sp := fun vs H Q _ => ∃ (pb : Addr) (qs : List (Addr × Sd)), vs = [.ref pb] ∧ SqT K H pb (refsOf qs) ∧ PartsAt K A H qs ∧ sumA qs ≤ 40 ∧ maxL qs ≤ 5 ∧
  ∀ (l : Addr) (H' : Hp), H l = none → Same H H' → H' l = some (.lst ((ind (flatR qs)).map V.str)) → Q (.ref l) H'
theorem ok_indented (T : Txt K mg A) : FnOk P w K mg base CX0 1 A.a_indented A.d_indented ["body"] (spIndent K A) := by
  have nd := sc_indented.nd
  refine T.f_indented.ok sc_indented (fun vs H Q E h => ?_) (fun cdv A' outer s H vs Q E hr h => ?_)
  · obtain ⟨p, qs, rfl, _⟩ := h
    rfl
  · obtain ⟨pb, qs, rfl, hb, hp, h40, h5, k⟩ := h
    have flen := flatR_len hp
    have frow := flatR_row hp
    have same_sq : ∀ {H2 : Hp}, Same H H2 → SqT K H2 pb (refsOf qs) := fun e => (KpT.of_same e).sq hb
    refine ⟨_, (pss_one (ps_ret (pe_lc2 (own := [("part", 1), ("row", 2)]) (vs1 := [2]) (g := gName 1) (g1 := gName 2) (tt := tYes) (tt1 := tYes) rfl nd (pi_tup (pv 0)) (blkOk_by (N := nm_indented) (sc := defScope st_indented) (by decide +kernel)) (by decide) (fun _ _ _ _ _ => (pg_name (i := 1) nd rfl (Or.inl rfl))) (fun _ _ _ _ _ => pts_nil) (fun _ _ _ _ _ => (show PI _ _ _ (iTup K _) from pi_tup (show PE _ _ (tFld K _ _) from pe_fld (pv 1) rfl))) (fun _ _ _ _ _ => (pg_name (i := 2) nd rfl (Or.inl rfl))) (fun _ _ _ _ _ => pts_nil) (fun _ _ _ _ _ => (pe_fs (.cons pe_str (.cons (pe_fmt (pv 2)) .nil))))))), ?_⟩
    refine ⟨_, rfl, pb, rfl, ⟨_, hb⟩, fun D hD => out_it (walk_tup (K := K) (a := pb) (xs := refsOf qs)) (fun i H2 => i ≤ qs.length ∧ Same H H2 ∧ H2 D = some (.lst ((ind (flatR (qs.take i))).map V.str))) ⟨Nat.zero_le _, same_new hD, upd_same⟩ (fun i H2 _ h => same_sq h.2.1) ?_ ?_⟩
    · rintro i x H1 H2 hi ⟨hle, sm, hdd⟩ ⟨rfl, hx⟩
      have hx : (qs.map fun q => V.ref q.1)[i]? = some x := hx
      rw [List.getElem?_map] at hx
      obtain ⟨q, hq, rfl⟩ := Option.map_eq_some_iff.mp hx
      have hil : i < qs.length := (List.getElem?_eq_some_iff.mp hq).1
      obtain ⟨bs, os, st⟩ := hp q (List.mem_of_getElem? hq)
      have ro := st.ok
      obtain ⟨C, dx, fs, ps, pr, pb2, po, h1, h2, h3, h4, h5', h6, h7, h8, h9, h10, h11, h12⟩ := st
      have fc := T.fam C (List.mem_of_getElem? h1)
      have tk : flatR (qs.take (i + 1)) = flatR (qs.take i) ++ q.2.rows := by
        rw [List.take_add_one, hq]
        simp [flatR]
      have tkl : (flatR (qs.take i)).length ≤ (flatR qs).length := by
        have e : flatR qs = flatR (qs.take i) ++ flatR (qs.drop i) := by
          unfold flatR
          rw [← List.flatMap_append, List.take_append_drop]
        rw [e, List.length_append]
        omega
      refine ⟨rfl, _, rfl, q.1, C, dx, fs, _, rfl, sm _ _ h2, fc.cl, fc.na _ (by decide +kernel), h5', pr, rfl, ⟨_, SqT.of (sm _ _ h6)⟩, ?_⟩
      refine in_it (walk_tup (K := K) (a := pr) (xs := q.2.rows.map V.str)) (g := gName 2) (tt := tYes) (vs := [2]) (D := D) (fun j H3 => Same H H3 ∧ H3 D = some (.lst ((ind (flatR (qs.take i) ++ q.2.rows.take j)).map V.str))) ⟨sm, ?_⟩ (fun j H3 _ h => SqT.of (h.1 _ _ h6)) ?_ ?_
      · rw [hdd]
        simp
      · rintro j y H3 H4 hj ⟨sm3, hd3⟩ ⟨rfl, hy⟩
        rw [List.getElem?_map] at hy
        obtain ⟨r, hr', rfl⟩ := Option.map_eq_some_iff.mp hy
        have rl := (ro.2.2.2.2.2.2 r (List.mem_of_getElem? hr')).1
        have lv5 := ro.2.2.2.1
        have rl2 : r.length ≤ sizeLine := len5000 (by omega)
        have e2 : (Str.empty ++ ("  " : Str) ++ r) = "  " ++ r := by rw [emp_app]
        refine ⟨rfl, "  ", rfl, by decide, _, rfl, Or.inl ⟨r, rfl, rl2, r, rfl, ?_, _, hd3, ?_, ?_, ?_⟩⟩
        · rw [e2, app_length]
          show 2 + r.length ≤ sizeLine
          exact len5000 (by omega)
        · rw [List.length_map]
          unfold ind
          rw [List.length_map, List.length_append, List.length_take]
          have : q.2.rows.length ≤ 80 := by
            have := ro.2.2.2.2.2.1
            have := ro.2.1
            omega
          exact lt5000 (by omega)
        · intro b o e
          rw [upd_ne (ne_of_none e hD)]
          exact sm3 _ _ e
        · rw [upd_same, e2, List.take_add_one, hr']
          simp [ind]
      · rintro H3 ⟨sm3, hd3⟩
        refine ⟨hil, sm3, ?_⟩
        rw [hd3, tk]
        simp
    · rintro H2 ⟨_, sm, hdd⟩
      refine k D H2 hD sm ?_
      rw [hdd, List.take_of_length_le (by simp [refsOf])]
end
end K03
set_option Elab.async false
set_option linter.all false
set_option maxRecDepth 100000
set_option maxHeartbeats 4000000
namespace K03
open PySem PySem.Spec PyProof.Rows L2 Mo
theorem catX_ok {K : PySem.W.Frag} {H : Hp} {a b : Addr} {xs ys : List V} {Q : VK} (ha : SqT K H a xs) (hb : SqT K H b ys) (hz : xs.length + ys.length ≤ sizeLine) (q : ∀ p H', Same H H' → SqT K H' p (xs ++ ys) → Q (.ref p) H') : rCatX K (.ref a) (.ref b) H Q := by
  refine ⟨a, b, xs, ys, rfl, rfl, ha, hb, hz, fun e => ?_, fun e => ?_, fun p ob hd hp => ?_⟩
  · subst e
    exact q b H (Same.refl H) hb
  · subst e
    refine q a H (Same.refl H) ?_
    rw [List.append_nil]
    exact ha
  · exact q p _ (same_new hp) (.inl (.inr ⟨ob, upd_same⟩))
theorem refs_app (a b : List (Addr × Sd)) : refsOf a ++ refsOf b = refsOf (a ++ b) := by simp [refsOf]
theorem PartsAt.app {K : PySem.W.Frag} {A : Ads} {H : Hp} {a b : List (Addr × Sd)} (ha : PartsAt K A H a) (hb : PartsAt K A H b) : PartsAt K A H (a ++ b) := fun q hq => (List.mem_append.mp hq).elim (ha q) (hb q)
section
variable {w : World} {K : PySem.W.Frag} {mg : Str → Option Value} {base : Heap} {A : Ads}
/-- a comprehension over parts that tells a number of each -/
theorem nums_lc {H : Hp} {pi : Addr} {qs : List (Addr × Sd)} {f : Sd → Nat} {vs : List Nat} {σ : L2.St} {D : Addr} {Qd : Hp → Prop} {te : TE} (hs : SqT K H pi (refsOf qs)) (hD : H D = none) (hlen : qs.length ≤ 100) {i8 : Nat}
    (ht : ∀ (j : Nat) (q : Addr × Sd) (H2 : Hp) (R : VK), Same H H2 → qs[j]? = some q → R (.int (f q.2 : Nat)) H2 → te ((wipe σ vs).set i8 (some (.ref q.1))) H2 R) (hw : ∀ x, wipe ((wipe σ vs).set i8 x) vs = wipe σ vs)
    (hq : ∀ H2, Same H H2 → H2 D = some (.lst ((qs.map fun q => ((f q.2 : Nat) : Int)).map V.int)) → Qd H2) :
    ∃ W : Nat → Nat → Hp → Prop, (∃ m, W 0 m (upd H D (.lst []))) ∧ ∀ i m H, W i m H →
      ((Itt K pi).stop i H ∧ Qd H) ∨ ((Itt K pi).go i H ∧ ∃ Nx : Hp → Prop, (∀ H', Nx H' → ∃ m', m' < m ∧ W (i + 1) m' H') ∧ ∀ x H', (Itt K pi).yld i H x H' → gName i8 x (wipe σ vs) H' fun σ2 H2 => wipe σ2 vs = wipe σ vs ∧ tYes σ2 H2 fun b H3 =>
        if b = true then te σ2 H3 fun y H4 => ∃ acc, H4 D = some (.lst acc) ∧ acc.length < sizeLine ∧ Nx (upd H4 D (.lst (acc ++ [y]))) else Nx H3) := by
  refine lc_it (walk_tup (K := K) (a := pi) (xs := refsOf qs)) (g := gName i8) (tt := tYes) (te := te) (fun i H2 => Same H H2 ∧ H2 D = some (.lst (((qs.take i).map fun q => ((f q.2 : Nat) : Int)).map V.int))) ⟨same_new hD, upd_same⟩ (fun i H2 _ h => (KpT.of_same h.1).sq hs) ?_ ?_
  · rintro i x H1 H2 hi ⟨sm, hd⟩ ⟨rfl, hx⟩
    have hx : (qs.map fun q => V.ref q.1)[i]? = some x := hx
    rw [List.getElem?_map] at hx
    obtain ⟨q, hq', rfl⟩ := Option.map_eq_some_iff.mp hx
    refine ⟨hw _, ?_⟩
    refine ht i q H2 _ sm hq' ⟨_, hd, ?_, ?_, ?_⟩
    · rw [List.length_map, List.length_map, List.length_take]
      exact lt5000 (by omega)
    · intro b o e
      rw [upd_ne (ne_of_none e hD)]
      exact sm _ _ e
    · rw [upd_same, List.take_add_one, hq']
      simp
  · rintro H2 ⟨sm, hd⟩
    refine hq H2 sm ?_
    rw [hd, List.take_of_length_le (by simp [refsOf])]
def spStInit (K : PySem.W.Frag) (A : Ads) : Sp := fun vs H Q _ => ∃ (a C dx pm pb po : Addr) (line : Str) (bs os : List (Addr × Sd)), vs = [.ref a, .str line, .ref pm, .ref pb, .ref po] ∧ C ∈ A.fam ∧ H a = some (.ins C dx []) ∧ SqT K H pb (refsOf bs) ∧ SqT K H po (refsOf os) ∧
  PartsAt K A H bs ∧ PartsAt K A H os ∧ sumA bs + sumA os ≤ 39 ∧ maxL (bs ++ os) ≤ 4 ∧ line.length ≤ 200 ∧ AlnT line ∧
  ∀ (ps pr : Addr) (H' : Hp), H' a = some (.ins C dx [("size", .ref ps), ("mentioned", .ref pm), ("body", .ref pb), ("otherwise", .ref po), ("cell", .non), ("into", .non), ("rows", .ref pr)]) → H' ps = some (.tup [.int (1 + (sumA bs + sumA os) : Nat), .int (1 + maxL (bs ++ os) : Nat)]) →
    H' pr = some (.tup ((rowsOf line bs os).map V.str)) → KeepBut a H H' → Q .non H'
theorem ok_Statement___init__ (T : Txt K mg A) : FnOk P w K mg base CX0 3 A.a_Statement___init__ A.d_Statement___init__ ["self", "line", "mentioned", "body", "otherwise"] (spStInit K A) := by
  have nd := sc_Statement___init__.nd
  refine T.f_Statement___init__.ok sc_Statement___init__ (fun vs H Q E h => ?_) (fun cdv A' outer s H vs Q E hr h => ?_)
  · obtain ⟨a, C, dx, pm, pb, po, line, bs, os, rfl, _⟩ := h
    rfl
  · obtain ⟨a, C, dx, pm, pb, po, line, bs, os, rfl, hC, ha, hb, ho, pbs, pos, h39, h4, ll, la, k⟩ := h
    have fc := T.fam C hC
    have pin := pbs.app pos
    have lin := len_sumA pin
    rw [sumA_app] at lin
    have lbs : bs.length ≤ 39 := by have := len_sumA pbs; omega
    have los : os.length ≤ 39 := by have := len_sumA pos; omega
    have flb := flatR_len pbs
    have flo := flatR_len pos
    have tail : ∃ t, PSs (cxOf CX0 P w K mg base nm_Statement___init__ "Statement.__init__" (defScope st_Statement___init__) A.a_Statement___init__ cdv A' outer s H E).nox ((defBody st_Statement___init__).drop 3) t ∧
        ∀ (pi : Addr) (H1 : Hp), Same H H1 → t { nx := fun _ H' => Q .non H', rt := Q } [some (.ref a), some (.str line), some (.ref pm), some (.ref pb), some (.ref po), some (.ref pi), some (.int (1 + ((sumA bs + sumA os : Nat) : Int))), some (.int (1 + ((maxL (bs ++ os) : Nat) : Int))), none] H1 := by
      refine ⟨_, (pss_cons (ps_if (pt_cmpR op_gt (pv 6) (pe_gI T.c_MAX_STATEMENTS) (nomark _)) (pss_one ps_never) pss_nil)
      (pss_cons (ps_if (pt_cmpR op_gt (pv 7) (pe_gI T.c_MAX_LEVEL) (nomark _)) (pss_one ps_never) pss_nil)
      (pss_cons (ps_fld (pv 0) (pe_tup (pa_cons (pv 6) (pa_cons (pv 7) pa_nil))) rfl)
      (pss_cons (ps_fld (pv 0) (pv 2) rfl)
      (pss_cons (ps_fld (pv 0) (pv 3) rfl)
      (pss_cons (ps_fld (pv 0) (pv 4) rfl)
      (pss_cons (ps_fld (pv 0) pe_non rfl)
      (pss_cons (ps_fld (pv 0) pe_non rfl)
      (pss_one (ps_fld (pv 0) (pe_tup (pa_cons (pv 1) (pa_star (pe_call (ok_indented T) (hr.mono (by decide)) (by rfl) T.m_indented T.k_indented T.v_indented .nil pass0 (pa_cons (pv 3) pa_nil)) (pa_star (pe_ifExp (pt_truth (pv 4) (by intro _; rfl)) (pe_tup (pa_cons pe_str (pa_star (pe_call (ok_indented T) (hr.mono (by decide)) (by rfl) T.m_indented T.k_indented T.v_indented .nil pass0 (pa_cons (pv 4) pa_nil)) pa_nil))) (pe_tup pa_nil)) pa_nil)))) rfl)))))))))), fun pi H1 s1 => ?_⟩
      refine ⟨_, rfl, _, _, rfl, rfl, _, rfl, ?_⟩
      refine ite2 (fun h => absurd (of_decide_eq_true h) (by omega)) (fun _ => ?_)
      refine ⟨_, rfl, _, _, rfl, rfl, _, rfl, ?_⟩
      refine ite2 (fun h => absurd (of_decide_eq_true h) (by omega)) (fun _ => ?_)
      have na : ∀ f ∈ famAttrs, NoAttr K C f := fc.na
      refine ⟨_, rfl, _, rfl, (by show 2 ≤ sizeLine; decide), fun ps hps => ?_⟩
      have s2 := s1.trans (same_new (o := .tup [.int (1 + ((sumA bs + sumA os : Nat) : Int)), .int (1 + ((maxL (bs ++ os) : Nat) : Int))]) hps)
      have npa : ps ≠ a := (ne_of_none (s1 _ _ ha) hps).symm
      refine ⟨_, rfl, a, C, dx, [], rfl, s2 _ _ ha, fc.cl, na _ (by decide +kernel), (by show 0 < 1000; decide), ?_⟩
      refine ⟨_, rfl, _, rfl, a, C, dx, _, rfl, upd_same, fc.cl, na _ (by decide +kernel), (by show 1 < 1000; decide), ?_⟩
      refine ⟨_, rfl, _, rfl, a, C, dx, _, rfl, upd_same, fc.cl, na _ (by decide +kernel), (by show 2 < 1000; decide), ?_⟩
      refine ⟨_, rfl, _, rfl, a, C, dx, _, rfl, upd_same, fc.cl, na _ (by decide +kernel), (by show 3 < 1000; decide), ?_⟩
      refine ⟨_, rfl, a, C, dx, _, rfl, upd_same, fc.cl, na _ (by decide +kernel), (by show 4 < 1000; decide), ?_⟩
      refine ⟨_, rfl, a, C, dx, _, rfl, upd_same, fc.cl, na _ (by decide +kernel), (by show 5 < 1000; decide), ?_⟩
      have fin : ∀ Hx : Hp, Hx a = some (.ins C dx [("size", .ref ps), ("mentioned", .ref pm), ("body", .ref pb), ("otherwise", .ref po), ("cell", .non), ("into", .non)]) → KeepBut a H Hx → Hx ps = some (.tup [.int (1 + ((sumA bs + sumA os : Nat) : Int)), .int (1 + ((maxL (bs ++ os) : Nat) : Int))]) →
          sFld K (tVar 0) (tTup (tCons (tVar 1) (tStar K (tCall (spIndent K A) [] E0 (tCons (tVar 3) tNil)) (tStar K (tIf (fun σ H_1 Q => tVar 4 σ H_1 fun x H' => ∃ k, TruV K x H' k ∧ Q k H') (tTup (tCons (tC (V.str "else")) (tStar K (tCall (spIndent K A) [] E0 (tCons (tVar 4) tNil)) tNil))) (tTup tNil)) tNil)))) "rows"
            { nx := fun _ H' => Q .non H', rt := Q } [some (.ref a), some (.str line), some (.ref pm), some (.ref pb), some (.ref po), some (.ref pi), some (.int (1 + ((sumA bs + sumA os : Nat) : Int))), some (.int (1 + ((maxL (bs ++ os) : Nat) : Int))), none] Hx := by
        intro Hx hxa kb hxs
        have kp : KpT H Hx := KpT.new ha kb
        have mb := maxL_app bs os
        refine ⟨_, rfl, _, rfl, pb, bs, rfl, kp.sq hb, pbs.mv kp, by omega, by omega, fun l H2 hl s2 h2 => ?_⟩
        refine ⟨l, _, rfl, .inr (SqL.of h2), _, rfl, !(refsOf os).isEmpty, .inr (.inl ⟨_, (kp.trans (KpT.of_same s2)).sq ho, rfl⟩), ?_⟩
        -- the end, once the rows are there
        have last : ∀ (xs : List V) (H3 : Hp), Same H2 H3 → xs = (rowsOf line bs os).map V.str → xs.length ≤ sizeLine ∧ ∀ p, H3 p = none → (tVar 0) [some (.ref a), some (.str line), some (.ref pm), some (.ref pb), some (.ref po), some (.ref pi), some (.int (1 + ((sumA bs + sumA os : Nat) : Int))), some (.int (1 + ((maxL (bs ++ os) : Nat) : Int))), none] (upd H3 p (.tup xs))
            fun x H4 => ∃ a C dx fs, x = .ref a ∧ H4 a = some (.ins C dx fs) ∧ Cls K C ∧ NoAttr K C "rows" ∧ fs.length < 1000 ∧ Q .non (upd H4 a (.ins C dx (putF "rows" (.ref p) fs))) := by
          rintro xs H3 s3 rfl
          have ro := rowsOf_ok ll la pbs pos h39 h4
          refine ⟨?_, fun p hp => ?_⟩
          · rw [List.length_map]
            exact len5000 (by have := ro.2.2.2.2.2.1; omega)
          · have hp2 : Hx p = none := (s2.trans s3).free hp
            have nap : a ≠ p := ne_of_none ((s2.trans s3) _ _ hxa) hp
            have nps : ps ≠ p := ne_of_none ((s2.trans s3) _ _ hxs) hp
            have s4 := (s2.trans s3).trans (same_new (o := .tup ((rowsOf line bs os).map V.str)) hp)
            refine ⟨_, rfl, a, C, dx, _, rfl, s4 _ _ hxa, fc.cl, fc.na _ (by decide +kernel), (by show 6 < 1000; decide), ?_⟩
            refine k ps p _ upd_same ?_ ?_ ?_
            · rw [upd_ne npa, s4 _ _ hxs]
              congr 4 <;> simp
            · rw [upd_ne nap.symm, upd_same]
            · intro b o nb e
              rw [upd_ne nb]
              exact s4 _ _ (kb _ _ nb e)
        by_cases e : os = []
        · subst e
          refine (if_neg (by decide)).mpr ?_
          refine ⟨by decide, fun p2 hp2 => ⟨p2, [], rfl, .inl (SqT.of upd_same), ?_⟩⟩
          exact last _ _ (same_new (o := .tup []) hp2) (by simp [rowsOf])
        · have ne : (!(refsOf os).isEmpty) = true := by
            cases os with
            | nil => exact absurd rfl e
            | cons q l => rfl
          rw [ne]
          refine (if_pos rfl).mpr ?_
          refine ⟨_, rfl, po, os, rfl, (kp.trans (KpT.of_same s2)).sq ho, pos.mv (kp.trans (KpT.of_same s2)), by omega, by omega, fun l2 H3 hl2 s3 h3 => ?_⟩
          refine ⟨l2, _, rfl, .inr (SqL.of h3), ?_, fun p2 hp2 => ⟨p2, _, rfl, .inl (SqT.of upd_same), ?_⟩⟩
          · rw [List.append_nil, List.length_cons, List.length_map]
            unfold ind
            rw [List.length_map]
            exact len5000 (by omega)
          · exact last _ _ (s3.trans (same_new hp2)) (by simp [rowsOf, e])
      refine fin _ upd_same ?_ ?_
      · intro b o nb e
        rw [upd_ne nb, upd_ne nb, upd_ne nb, upd_ne nb, upd_ne nb, upd_ne nb]
        exact s2 _ _ e
      · rw [upd_ne npa, upd_ne npa, upd_ne npa, upd_ne npa, upd_ne npa, upd_ne npa, upd_same]
    obtain ⟨t3, D3, rest3⟩ := tail
    refine ⟨_, (pss_cons (ps_set (i := 5) nd rfl (Or.inl rfl) (pe_op op_catX (pv 3) (pv 4)))
      (pss_cons (ps_set (i := 6) nd rfl (Or.inl rfl) (pe_op op_add pe_int (pe_callB (cr_sum rfl) (by rfl) T.b_sum (by decide +kernel) (pa_cons (pe_lc (own := [("part", 8)]) (g := gName 8) (tt := tYes) rfl nd (pi_tup (pv 5)) (blkOk_by (N := nm_Statement___init__) (sc := defScope st_Statement___init__) (by decide +kernel)) (fun _ _ _ _ _ => (pg_name (i := 8) nd rfl (Or.inl rfl))) (fun _ _ _ _ _ => pts_nil) (fun _ _ _ _ _ => (pe_propF (pv 8) T.pr_Statement_amount (ok_Statement_amount T) (hr.mono (by decide)) T.v_Statement_amount pass0))) pa_nil))))
      (pss_cons (ps_set (i := 7) nd rfl (Or.inl rfl) (pe_op op_add pe_int (pe_callBK (cr_maxDf rfl) (by rfl) T.b_max (by decide +kernel) (pa_cons (pe_lc (own := [("part", 8)]) (g := gName 8) (tt := tYes) rfl nd (pi_tup (pv 5)) (blkOk_by (N := nm_Statement___init__) (sc := defScope st_Statement___init__) (by decide +kernel)) (fun _ _ _ _ _ => (pg_name (i := 8) nd rfl (Or.inl rfl))) (fun _ _ _ _ _ => pts_nil) (fun _ _ _ _ _ => (pe_propF (pv 8) T.pr_Statement_level (ok_Statement_level T) (hr.mono (by decide)) T.v_Statement_level pass0))) pa_nil) (pk_cons pe_int pk_nil))))
      D3))), ?_⟩
    refine ⟨_, rfl, _, rfl, catX_ok hb ho ?_ fun pi H1 s1 hi => ?_⟩
    · simp only [refsOf, List.length_map]
      exact len5000 (by omega)
    rw [refs_app] at hi
    refine ⟨_, rfl, pi, rfl, ⟨_, hi⟩, fun D hD => nums_lc (f := Sd.am) hi hD (by omega) (i8 := 8) (fun j q H2 R s2 hq r => ?_) (fun _ => rfl) fun H2 s2 hd => ?_⟩
    · obtain ⟨b1, o1, st⟩ := (pin.mv (KpT.of_same (s1.trans s2))) q (List.mem_of_getElem? hq)
      have st' := st
      obtain ⟨C1, dx1, fs1, ps1, pr1, pb1, po1, g1, g2, g3, g4, g5, g6, g7, g8, g9, g10, g11, g12⟩ := st
      exact ⟨_, rfl, q.1, C1, dx1, fs1, rfl, List.mem_of_getElem? g1, g2, q.1, q.2, b1, o1, rfl, st', r⟩
    have s12 := s1.trans s2
    have e1 : ((bs ++ os).map fun q => ((q.2.am : Nat) : Int)).sum = ((sumA bs + sumA os : Nat) : Int) := by
      rw [← sumA_app]
      unfold sumA
      generalize bs ++ os = l
      induction l with
      | nil => rfl
      | cons q l ih =>
        rw [List.map_cons, List.sum_cons, ih, List.map_cons, List.sum_cons]
        omega
    refine ⟨D, _, rfl, SqL.of hd, _, _, rfl, rfl, ?_⟩
    rw [e1]
    refine ⟨_, rfl, pi, rfl, ⟨_, (KpT.of_same s2).sq hi⟩, fun D2 hD2 => nums_lc (f := Sd.lv) ((KpT.of_same s2).sq hi) hD2 (by omega) (i8 := 8) (fun j q H3 R s3 hq r => ?_) (fun _ => rfl) fun H3 s3 hd3 => ?_⟩
    · obtain ⟨b1, o1, st⟩ := (pin.mv (KpT.of_same (s12.trans s3))) q (List.mem_of_getElem? hq)
      have st' := st
      obtain ⟨C1, dx1, fs1, ps1, pr1, pb1, po1, g1, g2, g3, g4, g5, g6, g7, g8, g9, g10, g11, g12⟩ := st
      exact ⟨_, rfl, q.1, C1, dx1, fs1, rfl, List.mem_of_getElem? g1, g2, q.1, q.2, b1, o1, rfl, st', r⟩
    have s13 := s12.trans s3
    refine ⟨D2, _, _, rfl, rfl, SqL.of hd3, fun e => ?_, fun m hm hmax => ?_⟩
    · have e : bs ++ os = [] := List.map_eq_nil_iff.mp e
      have z : maxL (bs ++ os) = 0 := by rw [e]; rfl
      have r := rest3 pi H3 s13
      rw [z] at r
      exact ⟨_, _, rfl, rfl, r⟩
    · obtain ⟨q, hq, rfl⟩ := List.mem_map.mp hm
      obtain ⟨m1, m2⟩ := maxL_mem (bs ++ os)
      obtain ⟨q2, hq2, e2⟩ := m2 (List.ne_nil_of_mem hq)
      have e3 : q.2.lv = maxL (bs ++ os) := by
        have h1 := m1 q hq
        have h2 := hmax _ (List.mem_map.mpr ⟨q2, hq2, rfl⟩)
        omega
      have r := rest3 pi H3 s13
      rw [← e3] at r
      exact ⟨_, _, rfl, rfl, r⟩
end
end K03
set_option Elab.async false
set_option linter.all false
set_option maxRecDepth 100000
set_option maxHeartbeats 4000000
namespace K03
open PySem PySem.Spec PyProof.Rows L2 Mo
/-! ### rows as data -/
def rowsD (rs : List Str) : PyData := .tuple (rs.map PyData.str)
theorem plAll_strs : ∀ {l : List Str}, (∀ r ∈ l, AlnT r) → PlAll (l.map PyData.str)
  | [], _ => by
    show PlAll []
    rw [PlAll]
    trivial
  | r :: l, h => by
    show PlAll (PyData.str r :: l.map PyData.str)
    rw [PlAll, Pl]
    exact ⟨h r List.mem_cons_self, plAll_strs fun x hx => h x (List.mem_cons_of_mem _ hx)⟩
theorem pl_rows {l : List Str} (h : ∀ r ∈ l, AlnT r) : Pl (rowsD l) := by
  unfold rowsD
  rw [Pl]
  exact plAll_strs h
theorem strs_inj : ∀ {a b : List Str}, a.map PyData.str = b.map PyData.str → a = b
  | [], [], _ => rfl
  | [], _ :: _, h => by simp at h
  | _ :: _, [], h => by simp at h
  | x :: a, y :: b, h => by
    simp only [List.map_cons, List.cons.injEq, PyData.str.injEq] at h
    rw [h.1, strs_inj h.2]
theorem eqv_rows {a b : List Str} (ha : ∀ r ∈ a, AlnT r) (hb : ∀ r ∈ b, AlnT r) : PyData.eqv (rowsD a) (rowsD b) = decide (a = b) := by
  by_cases e : a = b
  · subst e
    rw [eqv_refl_plain (pl_rows ha), decide_eq_true rfl]
  · rw [decide_eq_false e]
    cases z : PyData.eqv (rowsD a) (rowsD b) with
    | false => rfl
    | true =>
      have := eqv_plain (pl_rows ha) (pl_rows hb) z
      unfold rowsD at this
      injection this with this
      exact absurd (strs_inj this) e
theorem shaped_rows {l : List Str} (h : ∀ r ∈ l, AlnT r) : SeqAt.shaped (rowsD l) = true := by
  obtain ⟨h1, h2⟩ := lay_strs fun y hy => AlnT.asc (h y hy)
  unfold SeqAt.shaped
  rw [Bool.and_eq_true]
  refine ⟨h1, decide_eq_true ?_⟩
  show PyData.depthAll (l.map PyData.str) + 1 ≤ 64
  omega
theorem RowsOk.aln {am lv : Nat} {rows : List Str} (h : RowsOk am lv rows) : ∀ r ∈ rows, AlnT r := fun r hr => (h.2.2.2.2.2.2 r hr).2
/-! ### names and operands -/
def NameT (z : Str) : Prop := isNameV (.str z) = true ∧ AlnT z ∧ z.length ≤ 8
def OperT (z : Str) : Prop := isOperV (.str z) = true ∧ AlnT z ∧ z.length ≤ 8
theorem NameT.th {z : Str} (h : NameT z) (H : Hp) : Th H (.str z) .str := .str z (by have := h.2.2; omega) (AlnT.asc h.2.1)
theorem OperT.th {z : Str} (h : OperT z) (H : Hp) : Th H (.str z) .str := .str z (by have := h.2.2; omega) (AlnT.asc h.2.1)
theorem NameT.oper {z : Str} (h : NameT z) : OperT z := by
  refine ⟨?_, h.2⟩
  have e : nameB z = true := h.1
  show (fixedB z || nameB z) = true
  rw [e, Bool.or_true]
section
variable {w : World} {K : PySem.W.Frag} {mg : Str → Option Value} {base : Heap} {A : Ads}
def spEq (K : PySem.W.Frag) (A : Ads) : Sp := fun vs H Q _ => ∃ p d bs os y, vs = [.ref p, y] ∧ StAt K A H p d bs os ∧ ((∃ q e b2 o2, y = .ref q ∧ StAt K A H q e b2 o2 ∧ Q (.bl (decide (d.rows = e.rows))) H) ∨ ∃ n, Th H y n ∧ Q (.bl false) H)
theorem ok_Statement___eq__ (T : Txt K mg A) : FnOk P w K mg base CX0 1 A.a_Statement___eq__ A.d_Statement___eq__ ["self", "other"] (spEq K A) := by
  have nd := sc_Statement___eq__.nd
  refine T.f_Statement___eq__.ok sc_Statement___eq__ (fun vs H Q E h => ?_) (fun cdv A' outer s H vs Q E hr h => ?_)
  · obtain ⟨p, d, bs, os, y, rfl, _⟩ := h
    rfl
  · obtain ⟨p, d, bs, os, y, rfl, ⟨C, dx, fs, ps, pr, pb, po, h1, h2, h3, h4, h5, h6, h7, h8, h9, h10, h11, h12⟩, h⟩ := h
    have fc := T.fam C (List.mem_of_getElem? h1)
    refine ⟨_, (pss_one (ps_ret (pe_and (pe_callB call_isi (by rfl) T.b_isinstance (by decide +kernel) (pa_cons (pv 1) (pa_cons (pe_gR T.m_Statement) pa_nil))) (pe_one (pe_cmpR (op_eqD hr.units) (pe_fld (pv 0) rfl) (pe_fld (pv 1) rfl) (nomark _)))))), ?_⟩
    rcases h with ⟨q, e, b2, o2, rfl, ⟨C', dx', fs', ps', pr', pb', po', g1, g2, g3, g4, g5, g6, g7, g8, g9, g10, g11, g12⟩, k⟩ | ⟨n, th, k⟩
    · have fc' := T.fam C' (List.mem_of_getElem? g1)
      refine ⟨_, rfl, _, _, _, _, _, rfl, .own _, fc'.ty _ _ _ _ g2, (T.sub C' (List.mem_of_getElem? g1)).2, _, rfl, ?_⟩
      refine ⟨_, rfl, p, C, dx, _, _, rfl, h2, fc.cl, fc.na _ (by decide +kernel), h5, ?_⟩
      refine ⟨_, rfl, q, C', dx', _, _, rfl, g2, fc'.cl, fc'.na _ (by decide +kernel), g5, ?_⟩
      refine ⟨rowsD d.rows, rowsD e.rows, .tup (SqT.of h6) (dp_strs _), .tup (SqT.of g6) (dp_strs _), shaped_rows h12.aln, shaped_rows g12.aln, ?_⟩
      rw [eqv_rows h12.aln g12.aln]
      exact k
    · exact ⟨_, rfl, _, _, _, _, _, rfl, .own _, th.ty, T.famB.ki7 n, _, rfl, k⟩
def spStr (K : PySem.W.Frag) (A : Ads) (f : Sd → Str) : Sp := fun vs H Q _ => ∃ p d bs os, vs = [.ref p] ∧ StAt K A H p d bs os ∧ Q (.str (f d)) H
theorem sum_len {l : List Str} {n : Nat} (h : ∀ r ∈ l, r.length ≤ n) : (l.map (·.length)).sum ≤ l.length * n := by
  induction l with
  | nil => simp
  | cons r l ih =>
    have h1 := h r List.mem_cons_self
    have h2 := ih fun x hx => h x (List.mem_cons_of_mem _ hx)
    rw [List.map_cons, List.sum_cons, List.length_cons, Nat.succ_mul]
    omega
theorem ok_Statement___str__ (T : Txt K mg A) : FnOk P w K mg base CX0 1 A.a_Statement___str__ A.d_Statement___str__ ["self"] (spStr K A fun d => Txt.join "\n" d.rows) := by
  have nd := sc_Statement___str__.nd
  refine T.f_Statement___str__.ok sc_Statement___str__ (fun vs H Q E h => ?_) (fun cdv A' outer s H vs Q E hr h => ?_)
  · obtain ⟨p, d, bs, os, rfl, _⟩ := h
    rfl
  · obtain ⟨p, d, bs, os, rfl, ⟨C, dx, fs, ps, pr, pb, po, h1, h2, h3, h4, h5, h6, h7, h8, h9, h10, h11, h12⟩, k⟩ := h
    have fc := T.fam C (List.mem_of_getElem? h1)
    refine ⟨_, (pss_one (ps_ret (pe_join pe_str (pe_fld (pv 0) rfl)))), ?_⟩
    refine ⟨⟨_, rfl⟩, _, rfl, p, C, dx, _, _, rfl, h2, fc.cl, fc.na _ (by decide +kernel), h5, "\n", pr, d.rows, rfl, rfl, .inr (SqT.of h6), ?_, k⟩
    obtain ⟨a1, a2, a3, a4, a5, a6, a7⟩ := h12
    have := sum_len (n := 210) fun r hr => by
      have := (a7 r hr).1
      omega
    have e : ("\n" : Str).length = 1 := rfl
    rw [e]
    omega
theorem ok_Statement___repr__ (T : Txt K mg A) : FnOk P w K mg base CX0 1 A.a_Statement___repr__ A.d_Statement___repr__ ["self"] (spStr K A fun d => "Statement(" ++ d.rows.headD "" ++ ")") := by
  have nd := sc_Statement___repr__.nd
  refine T.f_Statement___repr__.ok sc_Statement___repr__ (fun vs H Q E h => ?_) (fun cdv A' outer s H vs Q E hr h => ?_)
  · obtain ⟨p, d, bs, os, rfl, _⟩ := h
    rfl
  · obtain ⟨p, d, bs, os, rfl, ⟨C, dx, fs, ps, pr, pb, po, h1, h2, h3, h4, h5, h6, h7, h8, h9, h10, h11, h12⟩, k⟩ := h
    have fc := T.fam C (List.mem_of_getElem? h1)
    obtain ⟨a1, a2, a3, a4, a5, a6, a7⟩ := h12
    obtain ⟨r, rs, er⟩ : ∃ r rs, d.rows = r :: rs := by
      cases e : d.rows with
      | nil =>
        rw [e] at a5
        simp at a5
      | cons r rs => exact ⟨r, rs, rfl⟩
    have lr := (a7 r (by rw [er]; exact List.mem_cons_self)).1
    rw [er] at h6
    have k : Q (.str (("Statement(" : Str) ++ d.rows.headD "" ++ (")" : Str))) H := k
    rw [show d.rows.headD "" = r by rw [er]; rfl] at k
    refine ⟨_, (pss_one (ps_ret (pe_fs (.cons pe_str (.cons (pe_fmt (pe_ix ix_tup (pe_fld (pv 0) rfl) pe_int (fun _ _ => rfl))) (.cons pe_str .nil)))))), ?_⟩
    have l0 : (Str.empty).length = 0 := rfl
    have l1 : ("Statement(" : Str).length = 10 := rfl
    have l2 : (")" : Str).length = 1 := rfl
    refine ⟨("Statement(" : Str), rfl, len5000 (by simp only [app_length, l0, l1]; omega), _, rfl, p, C, dx, _, _, rfl, h2, fc.cl, fc.na _ (by decide +kernel), h5, pr, _, _, _, rfl, rfl, SqT.of h6, atI_nat (j := 0) rfl, Or.inl ⟨r, rfl, len5000 (by omega), r, rfl, len5000 (by simp only [app_length, l0, l1]; omega), (")" : Str), rfl, len5000 (by simp only [app_length, l0, l1, l2]; omega), ?_⟩⟩
    show Q (.str (Str.empty ++ ("Statement(" : Str) ++ r ++ (")" : Str))) H
    rw [emp_app]
    exact k
def spLook (K : PySem.W.Frag) (A : Ads) : Sp := fun vs H Q _ => ∃ (a dx : Addr) (z0 z1 : Str), vs = [.ref a, .str z0, .str z1] ∧ H a = some (.ins A.c_Look dx []) ∧ NameT z0 ∧ NameT z1 ∧ ∀ H', StAt K A H' a ⟨0, 1, 1, [("look " : Str) ++ z0 ++ (" into " : Str) ++ z1]⟩ [] [] → KeepBut a H H' → Q .non H'
theorem ok_Look___init__ (T : Txt K mg A) : FnOk P w K mg base CX0 5 A.a_Look___init__ A.d_Look___init__ ["self", "cell", "into"] (spLook K A) := by
  have nd := ss_Look___init__.nd
  refine T.f_Look___init__.ok ss_Look___init__ (ar := _) rfl rfl rfl (fun vs H Q E h => ?_) (fun cdv A' outer s H vs Q E hr S h => ?_)
  · obtain ⟨a, dx, z0, z1, rfl, _⟩ := h
    rfl
  · obtain ⟨a, dx, z0, z1, rfl, ha, hz0, hz1, k⟩ := h
    have mem : A.c_Look ∈ A.fam := List.mem_of_getElem? (show A.fam[0]? = some A.c_Look from rfl)
    have fc := T.fam _ mem
    refine ⟨_, (psa_cons (ps_expr (pe_call (ok_check_name T) (hr.mono (by decide)) (by rfl) T.m_check_name T.k_check_name T.v_check_name .nil pass0 (pa_cons (pv 1) pa_nil)))
      (psa_cons (ps_expr (pe_call (ok_check_name T) (hr.mono (by decide)) (by rfl) T.m_check_name T.k_check_name T.v_check_name .nil pass0 (pa_cons (pv 2) pa_nil)))
      (psa_sup S ((ok_Statement___init__ T).raw (dvs := [.ref A.x_Statement___init___1, .ref A.x_Statement___init___2]) T.vd_Statement___init___2 (.cons rfl (.cons rfl .nil))) (hr.mono (by decide)) pass0 (pa_cons (pe_fs (.cons pe_str (.cons (pe_fmt (pv 1)) (.cons pe_str (.cons (pe_fmt (pv 2)) .nil))))) (pa_cons (pe_tup (pa_cons (pv 2) pa_nil)) pa_nil)) (psa_any (pss_cons (ps_fld (pv 0) (pv 1) rfl)
      (pss_one (ps_fld (pv 0) (pv 2) rfl)))) T.b_super T.fi_Statement___init__ T.ft_Statement___init__))), ?_⟩
    refine ⟨_, rfl, .str z0, .str, rfl, hz0.th H, hz0.1, fun H1 s1 => ?_⟩
    have q1 := s1
    refine ⟨_, rfl, .str z1, .str, rfl, hz1.th H1, hz1.1, fun H2 s2 => ?_⟩
    have q2 := q1.trans s2
    refine ⟨a, A.c_Look, dx, [], rfl, q2 _ _ ha, T.slf _ mem, T.sup _ mem, fun q hq => ?_⟩
    have sq := q2.trans (same_new (o := .met A.a_Statement___init__ a) hq)
    have l0 : (Str.empty).length = 0 := rfl
    have l1 : (" into " : Str).length = 6 := rfl
    have l2 : ("look " : Str).length = 5 := rfl
    have mz0 := hz0.2.2
    have mz1 := hz1.2.2
    refine ⟨("look " : Str), rfl, (len5000 (by simp only [app_length, l0, l1, l2]; omega)), _, rfl, Or.inl ⟨z0, rfl, len5000 (by omega), z0, rfl, (len5000 (by simp only [app_length, l0, l1, l2]; omega)), (" into " : Str), rfl, (len5000 (by simp only [app_length, l0, l1, l2]; omega)), _, rfl, Or.inl ⟨z1, rfl, len5000 (by omega), z1, rfl, (len5000 (by simp only [app_length, l0, l1, l2]; omega)), _, rfl, (by show 1 ≤ sizeLine; decide), fun pm hpm => ?_⟩⟩⟩
    have sm := sq.trans (same_new (o := .tup [.str z1]) hpm)
    have hm : (upd (upd H2 q (.met A.a_Statement___init__ a)) pm (.tup [.str z1])) q = some (.met A.a_Statement___init__ a) := same_new hpm _ _ upd_same
    refine ⟨hm, a, A.c_Look, dx, pm, A.x_Statement___init___1, A.x_Statement___init___2, _, [], [], rfl, mem, sm _ _ ha, T.e_Statement___init___1 _, T.e_Statement___init___2 _, fun _ h => (List.not_mem_nil h).elim, fun _ h => (List.not_mem_nil h).elim, by decide, by decide, ?_, ?_, fun ps pr H' h1 h2 h3 kb => ?_⟩
    · simp only [app_length, l0, l1, l2]
      omega
    · exact (aln_app (aln_app (aln_app (aln_app (aln_by (by decide +kernel)) (aln_by (by decide +kernel))) hz0.2.1) (aln_by (by decide +kernel))) hz1.2.1)
    rw [emp_app] at h3
    refine ⟨_, rfl, _, rfl, a, _, dx, _, rfl, h1, fc.cl, fc.na _ (by decide +kernel), (by show 7 < 1000; decide), ?_⟩
    refine ⟨_, rfl, _, rfl, a, _, dx, _, rfl, upd_same, fc.cl, fc.na _ (by decide +kernel), (by show 7 < 1000; decide), ?_⟩
    have n1 : ps ≠ a := ne_of h2 h1 (by intro z; cases z)
    have n2 : pr ≠ a := ne_of h3 h1 (by intro z; cases z)
    refine k _ ⟨A.c_Look, dx, _, ps, pr, A.x_Statement___init___1, A.x_Statement___init___2, rfl, upd_same, rfl, (upd_ne n1).trans ((upd_ne n1).trans (h2)), rfl, (upd_ne n2).trans ((upd_ne n2).trans (h3)), rfl, T.e_Statement___init___1 _, rfl, T.e_Statement___init___2 _, rfl, ?_⟩ ?_
    · refine ⟨by show 1 ≤ 1; decide, by show 1 ≤ 40; decide, by show 1 ≤ 1; decide, by show 1 ≤ 5; decide, by show 1 ≤ 1; decide, by show 1 ≤ 2; decide, fun r hr => ?_⟩
      rw [List.mem_singleton.mp hr]
      refine ⟨?_, (aln_app (aln_app (aln_app (aln_by (by decide +kernel)) hz0.2.1) (aln_by (by decide +kernel))) hz1.2.1)⟩
      simp only [app_length, l1, l2]
      omega
    · intro b o nb e
      rw [upd_ne nb, upd_ne nb]
      exact kb _ _ nb (sm _ _ e)
def spPut (K : PySem.W.Frag) (A : Ads) : Sp := fun vs H Q _ => ∃ (a dx : Addr) (z0 z1 : Str), vs = [.ref a, .str z0, .str z1] ∧ H a = some (.ins A.c_Put dx []) ∧ NameT z0 ∧ OperT z1 ∧ ∀ H', StAt K A H' a ⟨1, 1, 1, [("put " : Str) ++ z0 ++ (" " : Str) ++ z1]⟩ [] [] → KeepBut a H H' → Q .non H'
theorem ok_Put___init__ (T : Txt K mg A) : FnOk P w K mg base CX0 5 A.a_Put___init__ A.d_Put___init__ ["self", "cell", "operand"] (spPut K A) := by
  have nd := ss_Put___init__.nd
  refine T.f_Put___init__.ok ss_Put___init__ (ar := _) rfl rfl rfl (fun vs H Q E h => ?_) (fun cdv A' outer s H vs Q E hr S h => ?_)
  · obtain ⟨a, dx, z0, z1, rfl, _⟩ := h
    rfl
  · obtain ⟨a, dx, z0, z1, rfl, ha, hz0, hz1, k⟩ := h
    have mem : A.c_Put ∈ A.fam := List.mem_of_getElem? (show A.fam[1]? = some A.c_Put from rfl)
    have fc := T.fam _ mem
    refine ⟨_, (psa_cons (ps_expr (pe_call (ok_check_name T) (hr.mono (by decide)) (by rfl) T.m_check_name T.k_check_name T.v_check_name .nil pass0 (pa_cons (pv 1) pa_nil)))
      (psa_cons (ps_expr (pe_call (ok_check_operand T) (hr.mono (by decide)) (by rfl) T.m_check_operand T.k_check_operand T.v_check_operand .nil pass0 (pa_cons (pv 2) pa_nil)))
      (psa_sup S ((ok_Statement___init__ T).raw (dvs := [.ref A.x_Statement___init___1, .ref A.x_Statement___init___2]) T.vd_Statement___init___2 (.cons rfl (.cons rfl .nil))) (hr.mono (by decide)) pass0 (pa_cons (pe_fs (.cons pe_str (.cons (pe_fmt (pv 1)) (.cons pe_str (.cons (pe_fmt (pv 2)) .nil))))) (pa_cons (pe_tup (pa_cons (pv 2) pa_nil)) pa_nil)) (psa_any (pss_cons (ps_fld (pv 0) (pv 1) rfl)
      (pss_one (ps_fld (pv 0) (pv 2) rfl)))) T.b_super T.fi_Statement___init__ T.ft_Statement___init__))), ?_⟩
    refine ⟨_, rfl, .str z0, .str, rfl, hz0.th H, hz0.1, fun H1 s1 => ?_⟩
    have q1 := s1
    refine ⟨_, rfl, .str z1, .str, rfl, hz1.th H1, hz1.1, fun H2 s2 => ?_⟩
    have q2 := q1.trans s2
    refine ⟨a, A.c_Put, dx, [], rfl, q2 _ _ ha, T.slf _ mem, T.sup _ mem, fun q hq => ?_⟩
    have sq := q2.trans (same_new (o := .met A.a_Statement___init__ a) hq)
    have l0 : (Str.empty).length = 0 := rfl
    have l1 : (" " : Str).length = 1 := rfl
    have l2 : ("put " : Str).length = 4 := rfl
    have mz0 := hz0.2.2
    have mz1 := hz1.2.2
    refine ⟨("put " : Str), rfl, (len5000 (by simp only [app_length, l0, l1, l2]; omega)), _, rfl, Or.inl ⟨z0, rfl, len5000 (by omega), z0, rfl, (len5000 (by simp only [app_length, l0, l1, l2]; omega)), (" " : Str), rfl, (len5000 (by simp only [app_length, l0, l1, l2]; omega)), _, rfl, Or.inl ⟨z1, rfl, len5000 (by omega), z1, rfl, (len5000 (by simp only [app_length, l0, l1, l2]; omega)), _, rfl, (by show 1 ≤ sizeLine; decide), fun pm hpm => ?_⟩⟩⟩
    have sm := sq.trans (same_new (o := .tup [.str z1]) hpm)
    have hm : (upd (upd H2 q (.met A.a_Statement___init__ a)) pm (.tup [.str z1])) q = some (.met A.a_Statement___init__ a) := same_new hpm _ _ upd_same
    refine ⟨hm, a, A.c_Put, dx, pm, A.x_Statement___init___1, A.x_Statement___init___2, _, [], [], rfl, mem, sm _ _ ha, T.e_Statement___init___1 _, T.e_Statement___init___2 _, fun _ h => (List.not_mem_nil h).elim, fun _ h => (List.not_mem_nil h).elim, by decide, by decide, ?_, ?_, fun ps pr H' h1 h2 h3 kb => ?_⟩
    · simp only [app_length, l0, l1, l2]
      omega
    · exact (aln_app (aln_app (aln_app (aln_app (aln_by (by decide +kernel)) (aln_by (by decide +kernel))) hz0.2.1) (aln_by (by decide +kernel))) hz1.2.1)
    rw [emp_app] at h3
    refine ⟨_, rfl, _, rfl, a, _, dx, _, rfl, h1, fc.cl, fc.na _ (by decide +kernel), (by show 7 < 1000; decide), ?_⟩
    refine ⟨_, rfl, _, rfl, a, _, dx, _, rfl, upd_same, fc.cl, fc.na _ (by decide +kernel), (by show 7 < 1000; decide), ?_⟩
    have n1 : ps ≠ a := ne_of h2 h1 (by intro z; cases z)
    have n2 : pr ≠ a := ne_of h3 h1 (by intro z; cases z)
    refine k _ ⟨A.c_Put, dx, _, ps, pr, A.x_Statement___init___1, A.x_Statement___init___2, rfl, upd_same, rfl, (upd_ne n1).trans ((upd_ne n1).trans (h2)), rfl, (upd_ne n2).trans ((upd_ne n2).trans (h3)), rfl, T.e_Statement___init___1 _, rfl, T.e_Statement___init___2 _, rfl, ?_⟩ ?_
    · refine ⟨by show 1 ≤ 1; decide, by show 1 ≤ 40; decide, by show 1 ≤ 1; decide, by show 1 ≤ 5; decide, by show 1 ≤ 1; decide, by show 1 ≤ 2; decide, fun r hr => ?_⟩
      rw [List.mem_singleton.mp hr]
      refine ⟨?_, (aln_app (aln_app (aln_app (aln_by (by decide +kernel)) hz0.2.1) (aln_by (by decide +kernel))) hz1.2.1)⟩
      simp only [app_length, l1, l2]
      omega
    · intro b o nb e
      rw [upd_ne nb, upd_ne nb]
      exact kb _ _ nb (sm _ _ e)
def spSwap (K : PySem.W.Frag) (A : Ads) : Sp := fun vs H Q _ => ∃ (a dx : Addr) (z0 z1 z2 : Str), vs = [.ref a, .str z0, .str z1, .str z2] ∧ H a = some (.ins A.c_Swap dx []) ∧ NameT z0 ∧ OperT z1 ∧ NameT z2 ∧ ∀ H', StAt K A H' a ⟨2, 1, 1, [("swap " : Str) ++ z0 ++ (" " : Str) ++ z1 ++ (" into " : Str) ++ z2]⟩ [] [] → KeepBut a H H' → Q .non H'
theorem ok_Swap___init__ (T : Txt K mg A) : FnOk P w K mg base CX0 5 A.a_Swap___init__ A.d_Swap___init__ ["self", "cell", "operand", "into"] (spSwap K A) := by
  have nd := ss_Swap___init__.nd
  refine T.f_Swap___init__.ok ss_Swap___init__ (ar := _) rfl rfl rfl (fun vs H Q E h => ?_) (fun cdv A' outer s H vs Q E hr S h => ?_)
  · obtain ⟨a, dx, z0, z1, z2, rfl, _⟩ := h
    rfl
  · obtain ⟨a, dx, z0, z1, z2, rfl, ha, hz0, hz1, hz2, k⟩ := h
    have mem : A.c_Swap ∈ A.fam := List.mem_of_getElem? (show A.fam[2]? = some A.c_Swap from rfl)
    have fc := T.fam _ mem
    refine ⟨_, (psa_cons (ps_expr (pe_call (ok_check_name T) (hr.mono (by decide)) (by rfl) T.m_check_name T.k_check_name T.v_check_name .nil pass0 (pa_cons (pv 1) pa_nil)))
      (psa_cons (ps_expr (pe_call (ok_check_operand T) (hr.mono (by decide)) (by rfl) T.m_check_operand T.k_check_operand T.v_check_operand .nil pass0 (pa_cons (pv 2) pa_nil)))
      (psa_cons (ps_expr (pe_call (ok_check_name T) (hr.mono (by decide)) (by rfl) T.m_check_name T.k_check_name T.v_check_name .nil pass0 (pa_cons (pv 3) pa_nil)))
      (psa_sup S ((ok_Statement___init__ T).raw (dvs := [.ref A.x_Statement___init___1, .ref A.x_Statement___init___2]) T.vd_Statement___init___2 (.cons rfl (.cons rfl .nil))) (hr.mono (by decide)) pass0 (pa_cons (pe_fs (.cons pe_str (.cons (pe_fmt (pv 1)) (.cons pe_str (.cons (pe_fmt (pv 2)) (.cons pe_str (.cons (pe_fmt (pv 3)) .nil))))))) (pa_cons (pe_tup (pa_cons (pv 2) (pa_cons (pv 3) pa_nil))) pa_nil)) (psa_any (pss_cons (ps_fld (pv 0) (pv 1) rfl)
      (pss_cons (ps_fld (pv 0) (pv 2) rfl)
      (pss_one (ps_fld (pv 0) (pv 3) rfl))))) T.b_super T.fi_Statement___init__ T.ft_Statement___init__)))), ?_⟩
    refine ⟨_, rfl, .str z0, .str, rfl, hz0.th H, hz0.1, fun H1 s1 => ?_⟩
    have q1 := s1
    refine ⟨_, rfl, .str z1, .str, rfl, hz1.th H1, hz1.1, fun H2 s2 => ?_⟩
    have q2 := q1.trans s2
    refine ⟨_, rfl, .str z2, .str, rfl, hz2.th H2, hz2.1, fun H3 s3 => ?_⟩
    have q3 := q2.trans s3
    refine ⟨a, A.c_Swap, dx, [], rfl, q3 _ _ ha, T.slf _ mem, T.sup _ mem, fun q hq => ?_⟩
    have sq := q3.trans (same_new (o := .met A.a_Statement___init__ a) hq)
    have l0 : (Str.empty).length = 0 := rfl
    have l1 : (" " : Str).length = 1 := rfl
    have l2 : (" into " : Str).length = 6 := rfl
    have l3 : ("swap " : Str).length = 5 := rfl
    have mz0 := hz0.2.2
    have mz1 := hz1.2.2
    have mz2 := hz2.2.2
    refine ⟨("swap " : Str), rfl, (len5000 (by simp only [app_length, l0, l1, l2, l3]; omega)), _, rfl, Or.inl ⟨z0, rfl, len5000 (by omega), z0, rfl, (len5000 (by simp only [app_length, l0, l1, l2, l3]; omega)), (" " : Str), rfl, (len5000 (by simp only [app_length, l0, l1, l2, l3]; omega)), _, rfl, Or.inl ⟨z1, rfl, len5000 (by omega), z1, rfl, (len5000 (by simp only [app_length, l0, l1, l2, l3]; omega)), (" into " : Str), rfl, (len5000 (by simp only [app_length, l0, l1, l2, l3]; omega)), _, rfl, Or.inl ⟨z2, rfl, len5000 (by omega), z2, rfl, (len5000 (by simp only [app_length, l0, l1, l2, l3]; omega)), _, rfl, _, rfl, (by show 2 ≤ sizeLine; decide), fun pm hpm => ?_⟩⟩⟩⟩
    have sm := sq.trans (same_new (o := .tup [.str z1, .str z2]) hpm)
    have hm : (upd (upd H3 q (.met A.a_Statement___init__ a)) pm (.tup [.str z1, .str z2])) q = some (.met A.a_Statement___init__ a) := same_new hpm _ _ upd_same
    refine ⟨hm, a, A.c_Swap, dx, pm, A.x_Statement___init___1, A.x_Statement___init___2, _, [], [], rfl, mem, sm _ _ ha, T.e_Statement___init___1 _, T.e_Statement___init___2 _, fun _ h => (List.not_mem_nil h).elim, fun _ h => (List.not_mem_nil h).elim, by decide, by decide, ?_, ?_, fun ps pr H' h1 h2 h3 kb => ?_⟩
    · simp only [app_length, l0, l1, l2, l3]
      omega
    · exact (aln_app (aln_app (aln_app (aln_app (aln_app (aln_app (aln_by (by decide +kernel)) (aln_by (by decide +kernel))) hz0.2.1) (aln_by (by decide +kernel))) hz1.2.1) (aln_by (by decide +kernel))) hz2.2.1)
    rw [emp_app] at h3
    refine ⟨_, rfl, _, rfl, a, _, dx, _, rfl, h1, fc.cl, fc.na _ (by decide +kernel), (by show 7 < 1000; decide), ?_⟩
    refine ⟨_, rfl, _, rfl, a, _, dx, _, rfl, upd_same, fc.cl, fc.na _ (by decide +kernel), (by show 7 < 1000; decide), ?_⟩
    refine ⟨_, rfl, _, rfl, a, _, dx, _, rfl, upd_same, fc.cl, fc.na _ (by decide +kernel), (by show 8 < 1000; decide), ?_⟩
    have n1 : ps ≠ a := ne_of h2 h1 (by intro z; cases z)
    have n2 : pr ≠ a := ne_of h3 h1 (by intro z; cases z)
    refine k _ ⟨A.c_Swap, dx, _, ps, pr, A.x_Statement___init___1, A.x_Statement___init___2, rfl, upd_same, rfl, (upd_ne n1).trans ((upd_ne n1).trans ((upd_ne n1).trans (h2))), rfl, (upd_ne n2).trans ((upd_ne n2).trans ((upd_ne n2).trans (h3))), rfl, T.e_Statement___init___1 _, rfl, T.e_Statement___init___2 _, rfl, ?_⟩ ?_
    · refine ⟨by show 1 ≤ 1; decide, by show 1 ≤ 40; decide, by show 1 ≤ 1; decide, by show 1 ≤ 5; decide, by show 1 ≤ 1; decide, by show 1 ≤ 2; decide, fun r hr => ?_⟩
      rw [List.mem_singleton.mp hr]
      refine ⟨?_, (aln_app (aln_app (aln_app (aln_app (aln_app (aln_by (by decide +kernel)) hz0.2.1) (aln_by (by decide +kernel))) hz1.2.1) (aln_by (by decide +kernel))) hz2.2.1)⟩
      simp only [app_length, l1, l2, l3]
      omega
    · intro b o nb e
      rw [upd_ne nb, upd_ne nb, upd_ne nb]
      exact kb _ _ nb (sm _ _ e)
def spTry (K : PySem.W.Frag) (A : Ads) : Sp := fun vs H Q _ => ∃ (a dx : Addr) (z0 z1 z2 z3 : Str), vs = [.ref a, .str z0, .str z1, .str z2, .str z3] ∧ H a = some (.ins A.c_Try dx []) ∧ NameT z0 ∧ OperT z1 ∧ OperT z2 ∧ NameT z3 ∧ ∀ H', StAt K A H' a ⟨3, 1, 1, [("try " : Str) ++ z0 ++ (" " : Str) ++ z1 ++ (" " : Str) ++ z2 ++ (" into " : Str) ++ z3]⟩ [] [] → KeepBut a H H' → Q .non H'
theorem ok_Try___init__ (T : Txt K mg A) : FnOk P w K mg base CX0 5 A.a_Try___init__ A.d_Try___init__ ["self", "cell", "old", "new", "into"] (spTry K A) := by
  have nd := ss_Try___init__.nd
  refine T.f_Try___init__.ok ss_Try___init__ (ar := _) rfl rfl rfl (fun vs H Q E h => ?_) (fun cdv A' outer s H vs Q E hr S h => ?_)
  · obtain ⟨a, dx, z0, z1, z2, z3, rfl, _⟩ := h
    rfl
  · obtain ⟨a, dx, z0, z1, z2, z3, rfl, ha, hz0, hz1, hz2, hz3, k⟩ := h
    have mem : A.c_Try ∈ A.fam := List.mem_of_getElem? (show A.fam[3]? = some A.c_Try from rfl)
    have fc := T.fam _ mem
    refine ⟨_, (psa_cons (ps_expr (pe_call (ok_check_name T) (hr.mono (by decide)) (by rfl) T.m_check_name T.k_check_name T.v_check_name .nil pass0 (pa_cons (pv 1) pa_nil)))
      (psa_cons (ps_expr (pe_call (ok_check_operand T) (hr.mono (by decide)) (by rfl) T.m_check_operand T.k_check_operand T.v_check_operand .nil pass0 (pa_cons (pv 2) pa_nil)))
      (psa_cons (ps_expr (pe_call (ok_check_operand T) (hr.mono (by decide)) (by rfl) T.m_check_operand T.k_check_operand T.v_check_operand .nil pass0 (pa_cons (pv 3) pa_nil)))
      (psa_cons (ps_expr (pe_call (ok_check_name T) (hr.mono (by decide)) (by rfl) T.m_check_name T.k_check_name T.v_check_name .nil pass0 (pa_cons (pv 4) pa_nil)))
      (psa_sup S ((ok_Statement___init__ T).raw (dvs := [.ref A.x_Statement___init___1, .ref A.x_Statement___init___2]) T.vd_Statement___init___2 (.cons rfl (.cons rfl .nil))) (hr.mono (by decide)) pass0 (pa_cons (pe_fs (.cons pe_str (.cons (pe_fmt (pv 1)) (.cons pe_str (.cons (pe_fmt (pv 2)) (.cons pe_str (.cons (pe_fmt (pv 3)) (.cons pe_str (.cons (pe_fmt (pv 4)) .nil))))))))) (pa_cons (pe_tup (pa_cons (pv 2) (pa_cons (pv 3) (pa_cons (pv 4) pa_nil)))) pa_nil)) (psa_any (pss_cons (ps_fld (pv 0) (pv 1) rfl)
      (pss_cons (ps_fld (pv 0) (pv 2) rfl)
      (pss_cons (ps_fld (pv 0) (pv 3) rfl)
      (pss_one (ps_fld (pv 0) (pv 4) rfl)))))) T.b_super T.fi_Statement___init__ T.ft_Statement___init__))))), ?_⟩
    refine ⟨_, rfl, .str z0, .str, rfl, hz0.th H, hz0.1, fun H1 s1 => ?_⟩
    have q1 := s1
    refine ⟨_, rfl, .str z1, .str, rfl, hz1.th H1, hz1.1, fun H2 s2 => ?_⟩
    have q2 := q1.trans s2
    refine ⟨_, rfl, .str z2, .str, rfl, hz2.th H2, hz2.1, fun H3 s3 => ?_⟩
    have q3 := q2.trans s3
    refine ⟨_, rfl, .str z3, .str, rfl, hz3.th H3, hz3.1, fun H4 s4 => ?_⟩
    have q4 := q3.trans s4
    refine ⟨a, A.c_Try, dx, [], rfl, q4 _ _ ha, T.slf _ mem, T.sup _ mem, fun q hq => ?_⟩
    have sq := q4.trans (same_new (o := .met A.a_Statement___init__ a) hq)
    have l0 : (Str.empty).length = 0 := rfl
    have l1 : (" " : Str).length = 1 := rfl
    have l2 : (" into " : Str).length = 6 := rfl
    have l3 : ("try " : Str).length = 4 := rfl
    have mz0 := hz0.2.2
    have mz1 := hz1.2.2
    have mz2 := hz2.2.2
    have mz3 := hz3.2.2
    refine ⟨("try " : Str), rfl, (len5000 (by simp only [app_length, l0, l1, l2, l3]; omega)), _, rfl, Or.inl ⟨z0, rfl, len5000 (by omega), z0, rfl, (len5000 (by simp only [app_length, l0, l1, l2, l3]; omega)), (" " : Str), rfl, (len5000 (by simp only [app_length, l0, l1, l2, l3]; omega)), _, rfl, Or.inl ⟨z1, rfl, len5000 (by omega), z1, rfl, (len5000 (by simp only [app_length, l0, l1, l2, l3]; omega)), (" " : Str), rfl, (len5000 (by simp only [app_length, l0, l1, l2, l3]; omega)), _, rfl, Or.inl ⟨z2, rfl, len5000 (by omega), z2, rfl, (len5000 (by simp only [app_length, l0, l1, l2, l3]; omega)), (" into " : Str), rfl, (len5000 (by simp only [app_length, l0, l1, l2, l3]; omega)), _, rfl, Or.inl ⟨z3, rfl, len5000 (by omega), z3, rfl, (len5000 (by simp only [app_length, l0, l1, l2, l3]; omega)), _, rfl, _, rfl, _, rfl, (by show 3 ≤ sizeLine; decide), fun pm hpm => ?_⟩⟩⟩⟩⟩
    have sm := sq.trans (same_new (o := .tup [.str z1, .str z2, .str z3]) hpm)
    have hm : (upd (upd H4 q (.met A.a_Statement___init__ a)) pm (.tup [.str z1, .str z2, .str z3])) q = some (.met A.a_Statement___init__ a) := same_new hpm _ _ upd_same
    refine ⟨hm, a, A.c_Try, dx, pm, A.x_Statement___init___1, A.x_Statement___init___2, _, [], [], rfl, mem, sm _ _ ha, T.e_Statement___init___1 _, T.e_Statement___init___2 _, fun _ h => (List.not_mem_nil h).elim, fun _ h => (List.not_mem_nil h).elim, by decide, by decide, ?_, ?_, fun ps pr H' h1 h2 h3 kb => ?_⟩
    · simp only [app_length, l0, l1, l2, l3]
      omega
    · exact (aln_app (aln_app (aln_app (aln_app (aln_app (aln_app (aln_app (aln_app (aln_by (by decide +kernel)) (aln_by (by decide +kernel))) hz0.2.1) (aln_by (by decide +kernel))) hz1.2.1) (aln_by (by decide +kernel))) hz2.2.1) (aln_by (by decide +kernel))) hz3.2.1)
    rw [emp_app] at h3
    refine ⟨_, rfl, _, rfl, a, _, dx, _, rfl, h1, fc.cl, fc.na _ (by decide +kernel), (by show 7 < 1000; decide), ?_⟩
    refine ⟨_, rfl, _, rfl, a, _, dx, _, rfl, upd_same, fc.cl, fc.na _ (by decide +kernel), (by show 7 < 1000; decide), ?_⟩
    refine ⟨_, rfl, _, rfl, a, _, dx, _, rfl, upd_same, fc.cl, fc.na _ (by decide +kernel), (by show 8 < 1000; decide), ?_⟩
    refine ⟨_, rfl, _, rfl, a, _, dx, _, rfl, upd_same, fc.cl, fc.na _ (by decide +kernel), (by show 9 < 1000; decide), ?_⟩
    have n1 : ps ≠ a := ne_of h2 h1 (by intro z; cases z)
    have n2 : pr ≠ a := ne_of h3 h1 (by intro z; cases z)
    refine k _ ⟨A.c_Try, dx, _, ps, pr, A.x_Statement___init___1, A.x_Statement___init___2, rfl, upd_same, rfl, (upd_ne n1).trans ((upd_ne n1).trans ((upd_ne n1).trans ((upd_ne n1).trans (h2)))), rfl, (upd_ne n2).trans ((upd_ne n2).trans ((upd_ne n2).trans ((upd_ne n2).trans (h3)))), rfl, T.e_Statement___init___1 _, rfl, T.e_Statement___init___2 _, rfl, ?_⟩ ?_
    · refine ⟨by show 1 ≤ 1; decide, by show 1 ≤ 40; decide, by show 1 ≤ 1; decide, by show 1 ≤ 5; decide, by show 1 ≤ 1; decide, by show 1 ≤ 2; decide, fun r hr => ?_⟩
      rw [List.mem_singleton.mp hr]
      refine ⟨?_, (aln_app (aln_app (aln_app (aln_app (aln_app (aln_app (aln_app (aln_by (by decide +kernel)) hz0.2.1) (aln_by (by decide +kernel))) hz1.2.1) (aln_by (by decide +kernel))) hz2.2.1) (aln_by (by decide +kernel))) hz3.2.1)⟩
      simp only [app_length, l1, l2, l3]
      omega
    · intro b o nb e
      rw [upd_ne nb, upd_ne nb, upd_ne nb, upd_ne nb]
      exact kb _ _ nb (sm _ _ e)
def spLet (K : PySem.W.Frag) (A : Ads) : Sp := fun vs H Q _ => ∃ (a dx : Addr) (z0 z1 : Str), vs = [.ref a, .str z0, .str z1] ∧ H a = some (.ins A.c_Let dx []) ∧ NameT z0 ∧ OperT z1 ∧ ∀ H', StAt K A H' a ⟨4, 1, 1, [("let " : Str) ++ z0 ++ (" " : Str) ++ z1]⟩ [] [] → KeepBut a H H' → Q .non H'
theorem ok_Let___init__ (T : Txt K mg A) : FnOk P w K mg base CX0 5 A.a_Let___init__ A.d_Let___init__ ["self", "into", "operand"] (spLet K A) := by
  have nd := ss_Let___init__.nd
  refine T.f_Let___init__.ok ss_Let___init__ (ar := _) rfl rfl rfl (fun vs H Q E h => ?_) (fun cdv A' outer s H vs Q E hr S h => ?_)
  · obtain ⟨a, dx, z0, z1, rfl, _⟩ := h
    rfl
  · obtain ⟨a, dx, z0, z1, rfl, ha, hz0, hz1, k⟩ := h
    have mem : A.c_Let ∈ A.fam := List.mem_of_getElem? (show A.fam[4]? = some A.c_Let from rfl)
    have fc := T.fam _ mem
    refine ⟨_, (psa_cons (ps_expr (pe_call (ok_check_name T) (hr.mono (by decide)) (by rfl) T.m_check_name T.k_check_name T.v_check_name .nil pass0 (pa_cons (pv 1) pa_nil)))
      (psa_cons (ps_expr (pe_call (ok_check_operand T) (hr.mono (by decide)) (by rfl) T.m_check_operand T.k_check_operand T.v_check_operand .nil pass0 (pa_cons (pv 2) pa_nil)))
      (psa_sup S ((ok_Statement___init__ T).raw (dvs := [.ref A.x_Statement___init___1, .ref A.x_Statement___init___2]) T.vd_Statement___init___2 (.cons rfl (.cons rfl .nil))) (hr.mono (by decide)) pass0 (pa_cons (pe_fs (.cons pe_str (.cons (pe_fmt (pv 1)) (.cons pe_str (.cons (pe_fmt (pv 2)) .nil))))) (pa_cons (pe_tup (pa_cons (pv 1) (pa_cons (pv 2) pa_nil))) pa_nil)) (psa_any (pss_cons (ps_fld (pv 0) (pv 1) rfl)
      (pss_one (ps_fld (pv 0) (pv 2) rfl)))) T.b_super T.fi_Statement___init__ T.ft_Statement___init__))), ?_⟩
    refine ⟨_, rfl, .str z0, .str, rfl, hz0.th H, hz0.1, fun H1 s1 => ?_⟩
    have q1 := s1
    refine ⟨_, rfl, .str z1, .str, rfl, hz1.th H1, hz1.1, fun H2 s2 => ?_⟩
    have q2 := q1.trans s2
    refine ⟨a, A.c_Let, dx, [], rfl, q2 _ _ ha, T.slf _ mem, T.sup _ mem, fun q hq => ?_⟩
    have sq := q2.trans (same_new (o := .met A.a_Statement___init__ a) hq)
    have l0 : (Str.empty).length = 0 := rfl
    have l1 : (" " : Str).length = 1 := rfl
    have l2 : ("let " : Str).length = 4 := rfl
    have mz0 := hz0.2.2
    have mz1 := hz1.2.2
    refine ⟨("let " : Str), rfl, (len5000 (by simp only [app_length, l0, l1, l2]; omega)), _, rfl, Or.inl ⟨z0, rfl, len5000 (by omega), z0, rfl, (len5000 (by simp only [app_length, l0, l1, l2]; omega)), (" " : Str), rfl, (len5000 (by simp only [app_length, l0, l1, l2]; omega)), _, rfl, Or.inl ⟨z1, rfl, len5000 (by omega), z1, rfl, (len5000 (by simp only [app_length, l0, l1, l2]; omega)), _, rfl, _, rfl, (by show 2 ≤ sizeLine; decide), fun pm hpm => ?_⟩⟩⟩
    have sm := sq.trans (same_new (o := .tup [.str z0, .str z1]) hpm)
    have hm : (upd (upd H2 q (.met A.a_Statement___init__ a)) pm (.tup [.str z0, .str z1])) q = some (.met A.a_Statement___init__ a) := same_new hpm _ _ upd_same
    refine ⟨hm, a, A.c_Let, dx, pm, A.x_Statement___init___1, A.x_Statement___init___2, _, [], [], rfl, mem, sm _ _ ha, T.e_Statement___init___1 _, T.e_Statement___init___2 _, fun _ h => (List.not_mem_nil h).elim, fun _ h => (List.not_mem_nil h).elim, by decide, by decide, ?_, ?_, fun ps pr H' h1 h2 h3 kb => ?_⟩
    · simp only [app_length, l0, l1, l2]
      omega
    · exact (aln_app (aln_app (aln_app (aln_app (aln_by (by decide +kernel)) (aln_by (by decide +kernel))) hz0.2.1) (aln_by (by decide +kernel))) hz1.2.1)
    rw [emp_app] at h3
    refine ⟨_, rfl, _, rfl, a, _, dx, _, rfl, h1, fc.cl, fc.na _ (by decide +kernel), (by show 7 < 1000; decide), ?_⟩
    refine ⟨_, rfl, _, rfl, a, _, dx, _, rfl, upd_same, fc.cl, fc.na _ (by decide +kernel), (by show 7 < 1000; decide), ?_⟩
    have n1 : ps ≠ a := ne_of h2 h1 (by intro z; cases z)
    have n2 : pr ≠ a := ne_of h3 h1 (by intro z; cases z)
    refine k _ ⟨A.c_Let, dx, _, ps, pr, A.x_Statement___init___1, A.x_Statement___init___2, rfl, upd_same, rfl, (upd_ne n1).trans ((upd_ne n1).trans (h2)), rfl, (upd_ne n2).trans ((upd_ne n2).trans (h3)), rfl, T.e_Statement___init___1 _, rfl, T.e_Statement___init___2 _, rfl, ?_⟩ ?_
    · refine ⟨by show 1 ≤ 1; decide, by show 1 ≤ 40; decide, by show 1 ≤ 1; decide, by show 1 ≤ 5; decide, by show 1 ≤ 1; decide, by show 1 ≤ 2; decide, fun r hr => ?_⟩
      rw [List.mem_singleton.mp hr]
      refine ⟨?_, (aln_app (aln_app (aln_app (aln_by (by decide +kernel)) hz0.2.1) (aln_by (by decide +kernel))) hz1.2.1)⟩
      simp only [app_length, l1, l2]
      omega
    · intro b o nb e
      rw [upd_ne nb, upd_ne nb]
      exact kb _ _ nb (sm _ _ e)
def spLeave (K : PySem.W.Frag) (A : Ads) : Sp := fun vs H Q _ => ∃ (a dx : Addr), vs = [.ref a] ∧ H a = some (.ins A.c_Leave dx []) ∧ ∀ H', StAt K A H' a ⟨5, 1, 1, [("leave" : Str)]⟩ [] [] → KeepBut a H H' → Q .non H'
theorem ok_Leave___init__ (T : Txt K mg A) : FnOk P w K mg base CX0 5 A.a_Leave___init__ A.d_Leave___init__ ["self"] (spLeave K A) := by
  have nd := ss_Leave___init__.nd
  refine T.f_Leave___init__.ok ss_Leave___init__ (ar := _) rfl rfl rfl (fun vs H Q E h => ?_) (fun cdv A' outer s H vs Q E hr S h => ?_)
  · obtain ⟨a, dx, rfl, _⟩ := h
    rfl
  · obtain ⟨a, dx, rfl, ha, k⟩ := h
    have mem : A.c_Leave ∈ A.fam := List.mem_of_getElem? (show A.fam[5]? = some A.c_Leave from rfl)
    have fc := T.fam _ mem
    refine ⟨_, (psa_sup S ((ok_Statement___init__ T).raw (dvs := [.ref A.x_Statement___init___0, .ref A.x_Statement___init___1, .ref A.x_Statement___init___2]) T.vd_Statement___init___1 (.cons rfl (.cons rfl (.cons rfl .nil)))) (hr.mono (by decide)) pass0 (pa_cons pe_str pa_nil) (psa_any pss_nil) T.b_super T.fi_Statement___init__ T.ft_Statement___init__), ?_⟩
    refine ⟨a, A.c_Leave, dx, [], rfl, (Same.refl H) _ _ ha, T.slf _ mem, T.sup _ mem, fun q hq => ?_⟩
    have sq := (Same.refl H).trans (same_new (o := .met A.a_Statement___init__ a) hq)
    have l0 : (Str.empty).length = 0 := rfl
    have l1 : ("leave" : Str).length = 5 := rfl
    have sm := sq
    have hm : (upd H q (.met A.a_Statement___init__ a)) q = some (.met A.a_Statement___init__ a) := upd_same
    refine ⟨hm, a, A.c_Leave, dx, A.x_Statement___init___0, A.x_Statement___init___1, A.x_Statement___init___2, _, [], [], rfl, mem, sm _ _ ha, T.e_Statement___init___1 _, T.e_Statement___init___2 _, fun _ h => (List.not_mem_nil h).elim, fun _ h => (List.not_mem_nil h).elim, by decide, by decide, ?_, ?_, fun ps pr H' h1 h2 h3 kb => ?_⟩
    · decide
    · exact aln_by (by decide +kernel)
    have n1 : ps ≠ a := ne_of h2 h1 (by intro z; cases z)
    have n2 : pr ≠ a := ne_of h3 h1 (by intro z; cases z)
    refine k _ ⟨A.c_Leave, dx, _, ps, pr, A.x_Statement___init___1, A.x_Statement___init___2, rfl, h1, rfl, h2, rfl, h3, rfl, T.e_Statement___init___1 _, rfl, T.e_Statement___init___2 _, rfl, ?_⟩ ?_
    · refine ⟨by show 1 ≤ 1; decide, by show 1 ≤ 40; decide, by show 1 ≤ 1; decide, by show 1 ≤ 5; decide, by show 1 ≤ 1; decide, by show 1 ≤ 2; decide, fun r hr => ?_⟩
      rw [List.mem_singleton.mp hr]
      exact ⟨by decide, aln_by (by decide +kernel)⟩
    · intro b o nb e
      exact kb _ _ nb (sm _ _ e)
def spReturn (K : PySem.W.Frag) (A : Ads) : Sp := fun vs H Q _ => ∃ (a dx : Addr) (z0 : Str), vs = [.ref a, .str z0] ∧ H a = some (.ins A.c_Return dx []) ∧ OperT z0 ∧ ∀ H', StAt K A H' a ⟨6, 1, 1, [("return " : Str) ++ z0]⟩ [] [] → KeepBut a H H' → Q .non H'
theorem ok_Return___init__ (T : Txt K mg A) : FnOk P w K mg base CX0 5 A.a_Return___init__ A.d_Return___init__ ["self", "operand"] (spReturn K A) := by
  have nd := ss_Return___init__.nd
  refine T.f_Return___init__.ok ss_Return___init__ (ar := _) rfl rfl rfl (fun vs H Q E h => ?_) (fun cdv A' outer s H vs Q E hr S h => ?_)
  · obtain ⟨a, dx, z0, rfl, _⟩ := h
    rfl
  · obtain ⟨a, dx, z0, rfl, ha, hz0, k⟩ := h
    have mem : A.c_Return ∈ A.fam := List.mem_of_getElem? (show A.fam[6]? = some A.c_Return from rfl)
    have fc := T.fam _ mem
    refine ⟨_, (psa_cons (ps_expr (pe_call (ok_check_operand T) (hr.mono (by decide)) (by rfl) T.m_check_operand T.k_check_operand T.v_check_operand .nil pass0 (pa_cons (pv 1) pa_nil)))
      (psa_sup S ((ok_Statement___init__ T).raw (dvs := [.ref A.x_Statement___init___1, .ref A.x_Statement___init___2]) T.vd_Statement___init___2 (.cons rfl (.cons rfl .nil))) (hr.mono (by decide)) pass0 (pa_cons (pe_fs (.cons pe_str (.cons (pe_fmt (pv 1)) .nil))) (pa_cons (pe_tup (pa_cons (pv 1) pa_nil)) pa_nil)) (psa_any (pss_one (ps_fld (pv 0) (pv 1) rfl))) T.b_super T.fi_Statement___init__ T.ft_Statement___init__)), ?_⟩
    refine ⟨_, rfl, .str z0, .str, rfl, hz0.th H, hz0.1, fun H1 s1 => ?_⟩
    have q1 := s1
    refine ⟨a, A.c_Return, dx, [], rfl, q1 _ _ ha, T.slf _ mem, T.sup _ mem, fun q hq => ?_⟩
    have sq := q1.trans (same_new (o := .met A.a_Statement___init__ a) hq)
    have l0 : (Str.empty).length = 0 := rfl
    have l1 : ("return " : Str).length = 7 := rfl
    have mz0 := hz0.2.2
    refine ⟨("return " : Str), rfl, (len5000 (by simp only [app_length, l0, l1]; omega)), _, rfl, Or.inl ⟨z0, rfl, len5000 (by omega), z0, rfl, (len5000 (by simp only [app_length, l0, l1]; omega)), _, rfl, (by show 1 ≤ sizeLine; decide), fun pm hpm => ?_⟩⟩
    have sm := sq.trans (same_new (o := .tup [.str z0]) hpm)
    have hm : (upd (upd H1 q (.met A.a_Statement___init__ a)) pm (.tup [.str z0])) q = some (.met A.a_Statement___init__ a) := same_new hpm _ _ upd_same
    refine ⟨hm, a, A.c_Return, dx, pm, A.x_Statement___init___1, A.x_Statement___init___2, _, [], [], rfl, mem, sm _ _ ha, T.e_Statement___init___1 _, T.e_Statement___init___2 _, fun _ h => (List.not_mem_nil h).elim, fun _ h => (List.not_mem_nil h).elim, by decide, by decide, ?_, ?_, fun ps pr H' h1 h2 h3 kb => ?_⟩
    · simp only [app_length, l0, l1]
      omega
    · exact (aln_app (aln_app (aln_by (by decide +kernel)) (aln_by (by decide +kernel))) hz0.2.1)
    rw [emp_app] at h3
    refine ⟨_, rfl, _, rfl, a, _, dx, _, rfl, h1, fc.cl, fc.na _ (by decide +kernel), (by show 7 < 1000; decide), ?_⟩
    have n1 : ps ≠ a := ne_of h2 h1 (by intro z; cases z)
    have n2 : pr ≠ a := ne_of h3 h1 (by intro z; cases z)
    refine k _ ⟨A.c_Return, dx, _, ps, pr, A.x_Statement___init___1, A.x_Statement___init___2, rfl, upd_same, rfl, (upd_ne n1).trans (h2), rfl, (upd_ne n2).trans (h3), rfl, T.e_Statement___init___1 _, rfl, T.e_Statement___init___2 _, rfl, ?_⟩ ?_
    · refine ⟨by show 1 ≤ 1; decide, by show 1 ≤ 40; decide, by show 1 ≤ 1; decide, by show 1 ≤ 5; decide, by show 1 ≤ 1; decide, by show 1 ≤ 2; decide, fun r hr => ?_⟩
      rw [List.mem_singleton.mp hr]
      refine ⟨?_, (aln_app (aln_by (by decide +kernel)) hz0.2.1)⟩
      simp only [app_length, l1]
      omega
    · intro b o nb e
      rw [upd_ne nb]
      exact kb _ _ nb (sm _ _ e)
end
end K03
set_option Elab.async false
set_option linter.all false
set_option maxRecDepth 100000
set_option maxHeartbeats 4000000
namespace K03
open PySem PySem.Spec PyProof.Rows L2 Mo
/-! ### drawn names -/
/-- begins with a letter, all letters and figures, at most n signs -/
def WordS (z : Str) (n : Nat) : Prop := z.cps.toList.headD 0 ∈ lets ∧ (∀ c ∈ z.cps.toList, c ∈ sgns) ∧ 1 ≤ z.length ∧ z.length ≤ n
theorem lets_sgns {c : Nat} (h : c ∈ lets) : c ∈ sgns := by
  have e : lets.all (fun c => decide (c ∈ sgns)) = true := by decide +kernel
  exact of_decide_eq_true (List.all_eq_true.mp e c h)
theorem sgns_aln {c : Nat} (h : c ∈ sgns) : Aln c = true := by
  have e : sgns.all Aln = true := by decide +kernel
  exact List.all_eq_true.mp e c h
theorem WordS.one {c : Nat} (hc : c ∈ lets) : WordS ⟨#[c]⟩ 1 := by
  refine ⟨hc, fun d hd => ?_, Nat.le_refl _, Nat.le_refl _⟩
  have : d = c := by simpa using hd
  rw [this]
  exact lets_sgns hc
theorem headD_app {a b : List Nat} (h : a ≠ []) : (a ++ b).headD 0 = a.headD 0 := by
  cases a with
  | nil => exact absurd rfl h
  | cons x l => rfl
theorem cps_ne {z : Str} (h : 1 ≤ z.length) : z.cps.toList ≠ [] := by
  intro e
  have : z.length = z.cps.toList.length := Array.length_toList.symm
  rw [e] at this
  simp at this
  omega
theorem WordS.add {z : Str} {n m : Nat} (h : WordS z n) {y : Str} (hy : ∀ c ∈ y.cps.toList, c ∈ sgns) (hm : y.length ≤ m) : WordS (z ++ y) (n + m) := by
  obtain ⟨h1, h2, h3, h4⟩ := h
  refine ⟨?_, fun d hd => ?_, ?_, ?_⟩
  · rw [cps_app, headD_app (cps_ne h3)]
    exact h1
  · rw [cps_app] at hd
    exact (List.mem_append.mp hd).elim (h2 d) (hy d)
  · rw [app_length]
    omega
  · rw [app_length]
    omega
theorem WordS.le {z : Str} {n m : Nat} (h : WordS z n) (e : n ≤ m) : WordS z m := ⟨h.1, h.2.1, h.2.2.1, by have := h.2.2.2; omega⟩
theorem WordS.name {z : Str} (h : WordS z 8) (hf : fixedB z = false) : NameT z := by
  obtain ⟨h1, h2, h3, h4⟩ := h
  refine ⟨?_, fun c hc => sgns_aln (h2 c hc), h4⟩
  show nameB z = true
  unfold nameB
  rw [hf, decide_eq_true (show 0 < z.length by omega), decide_eq_true h4, decide_eq_true h1, List.all_eq_true.mpr fun c hc => decide_eq_true (h2 c hc)]
  rfl
theorem name_by {z : Str} (h : (nameB z && z.cps.toList.all Aln) = true) : NameT z := by
  rw [Bool.and_eq_true] at h
  refine ⟨h.1, fun c hc => List.all_eq_true.mp h.2 c hc, ?_⟩
  have h := h.1
  unfold nameB at h
  simp only [Bool.and_eq_true, decide_eq_true_eq] at h
  exact h.1.1.1.2
theorem NameT.word {z : Str} (h : NameT z) : WordS z 8 ∧ fixedB z = false := by
  have h1 : nameB z = true := h.1
  unfold nameB at h1
  simp only [Bool.and_eq_true, decide_eq_true_eq, Bool.not_eq_true'] at h1
  obtain ⟨⟨⟨⟨a, b⟩, c⟩, d⟩, e⟩ := h1
  exact ⟨⟨d, fun x hx => of_decide_eq_true (List.all_eq_true.mp e x hx), a, b⟩, c⟩
/-- the begin of a name and a z -/
theorem cut_z {z : Str} (h : NameT z) {d : Int} (d0 : 0 ≤ d) (d7 : d < 7) : NameT (cutS z none (some (1 + d)) ++ "z") := by
  obtain ⟨⟨h1, h2, h3, h4⟩, _⟩ := h.word
  have e : (cutS z none (some (1 + d))).cps.toList = (z.cps.toList).take (min (1 + d).toNat z.length) := by
    show ((z.cps.toList.drop 0).take ((if 1 + d < 0 then (1 + d + (z.length : Int)).toNat else min (1 + d).toNat z.length) - 0)).toArray.toList = _
    rw [if_neg (by omega)]
    simp
  obtain ⟨c, l, hcl⟩ : ∃ c l, z.cps.toList = c :: l := by
    cases hz : z.cps.toList with
    | nil => exact absurd hz (cps_ne h3)
    | cons c l => exact ⟨c, l, rfl⟩
  obtain ⟨n, hn⟩ : ∃ n, min (1 + d).toNat z.length = n + 1 := ⟨min (1 + d).toNat z.length - 1, by omega⟩
  have e2 : (cutS z none (some (1 + d))).cps.toList = c :: l.take n := by
    rw [e, hcl, hn]
    rfl
  have len : (cutS z none (some (1 + d))).length ≤ 7 := by
    show (cutS z none (some (1 + d))).cps.size ≤ 7
    rw [← Array.length_toList, e, List.length_take]
    omega
  have w : WordS (cutS z none (some (1 + d))) 7 := by
    refine ⟨?_, fun x hx => ?_, ?_, len⟩
    · rw [e2]
      rw [hcl] at h1
      exact h1
    · rw [e] at hx
      exact h2 x (List.mem_of_mem_take hx)
    · show 1 ≤ (cutS z none (some (1 + d))).cps.size
      rw [← Array.length_toList, e2]
      simp
  have ez : ("z" : Str).cps.toList = [122] := by decide +kernel
  refine (w.add (m := 1) (y := "z") ?_ (Nat.le_refl _)).name ?_
  · intro c hc
    rw [ez] at hc
    rw [List.mem_singleton.mp hc]
    decide +kernel
  · have no : ∀ y : Str, y.cps.toList.getLast? ≠ some 122 → (cutS z none (some (1 + d)) ++ "z") ≠ y := by
      intro y hy e
      apply hy
      rw [← e, cps_app, ez]
      simp
    unfold fixedB
    rw [decide_eq_false (no "nothing" (by decide +kernel)), decide_eq_false (no "yes" (by decide +kernel))]
    rfl
section
variable {w : World} {K : PySem.W.Frag} {mg : Str → Option Value} {base : Heap} {A : Ads}
def spWord : Sp := fun vs H Q _ => ∃ a : Addr, vs = [.ref a] ∧ Src H a ∧ ∀ (z : Str) (H' : Hp), NameT z → Src H' a → KeepBut a H H' → Q (.str z) H'
abbrev abc : Str := "abcdefghijklmnopqrstuvwxyz"
abbrev fixed16 : List Str := ["call", "look", "put", "swap", "try", "into", "let", "if", "is", "else", "loop", "leave", "return", "joined", "nothin", "yes1"]
theorem fixed_names : ∀ z ∈ fixed16, NameT z := by
  have h : fixed16.all (fun z => nameB z && z.cps.toList.all Aln) = true := by decide +kernel
  exact fun z hz => name_by (List.all_eq_true.mp h z hz)
theorem ok_law_word (T : Txt K mg A) : FnOk P w K mg base CX0 2 A.a_law_word A.d_law_word ["_law_source_here"] spWord := by
  have nd := sc_law_word.nd
  refine T.f_law_word.ok sc_law_word (fun vs H Q E h => ?_) (fun cdv A' outer s H vs Q E hr h => ?_)
  · obtain ⟨a, rfl, _⟩ := h
    rfl
  · obtain ⟨a, rfl, src, k⟩ := h
    refine ⟨_, (pss_cons (ps_set (i := 1) nd rfl (Or.inl rfl) (pe_lst (pa_cons pe_str (pa_cons pe_str (pa_cons pe_str (pa_cons pe_str (pa_cons pe_str (pa_cons pe_str (pa_cons pe_str (pa_cons pe_str (pa_cons pe_str (pa_cons pe_str (pa_cons pe_str (pa_cons pe_str pa_nil))))))))))))))
      (pss_cons (ps_set (i := 1) nd rfl (Or.inl rfl) (pe_op op_cat (pv 1) (pe_lst (pa_cons pe_str (pa_cons pe_str (pa_cons pe_str (pa_cons pe_str pa_nil)))))))
      (pss_cons (ps_if (pt_cmpR op_eq (pe_call (ok_law_take T) (hr.mono (by decide)) (by rfl) T.m_law_take T.k_law_take T.v_law_take .nil pass0 (pa_cons (pv 0) (pa_cons pe_int pa_nil))) pe_int (nomark _)) (pss_one (ps_ret (pe_ix ix_list (pv 1) (pe_call (ok_law_take T) (hr.mono (by decide)) (by rfl) T.m_law_take T.k_law_take T.v_law_take .nil pass0 (pa_cons (pv 0) (pa_cons pe_int pa_nil))) (fun _ _ => rfl)))) pss_nil)
      (pss_cons (ps_set (i := 2) nd rfl (Or.inl rfl) pe_str)
      (pss_cons (ps_set (i := 3) nd rfl (Or.inl rfl) (pe_ix ix_str (pv 2) (pe_call (ok_law_take T) (hr.mono (by decide)) (by rfl) T.m_law_take T.k_law_take T.v_law_take .nil pass0 (pa_cons (pv 0) (pa_cons pe_int pa_nil))) (fun _ _ => rfl)))
      (pss_cons (ps_for PassesOwn.never rfl (pi_range1 (by rfl) T.b_range (pa_cons (pe_call (ok_law_take T) (hr.mono (by decide)) (by rfl) T.m_law_take T.k_law_take T.v_law_take .nil pass0 (pa_cons (pv 0) (pa_cons pe_int pa_nil))) pa_nil)) (pg_name (i := 4) nd rfl (Or.inl rfl)) (pss_one (ps_set (i := 3) nd rfl (Or.inl rfl) (pe_op op_add_str (pv 3) (pe_ix ix_str (pe_op op_add_str (pv 2) pe_str) (pe_call (ok_law_take T) (hr.mono (by decide)) (by rfl) T.m_law_take T.k_law_take T.v_law_take .nil pass0 (pa_cons (pv 0) (pa_cons pe_int pa_nil))) (fun _ _ => rfl))))))
      (pss_one (ps_ret (pe_ifExp (pt_cmpR op_in_seq (pv 3) (pe_lst (pa_cons pe_str (pa_cons pe_str pa_nil))) (by rfl)) (pe_op op_add_str (pv 3) pe_str) (pv 3)))))))))), ?_⟩
    refine ⟨(by show 12 ≤ sizeLine; decide), fun p hp => ?_⟩
    have s1 := same_new (o := .lst ([.str "call", .str "look", .str "put", .str "swap", .str "try", .str "into", .str "let", .str "if", .str "is", .str "else", .str "loop", .str "leave"])) hp
    refine ⟨_, rfl, (by show 4 ≤ sizeLine; decide), fun p2 hp2 => ?_⟩
    have s2 := s1.trans (same_new (o := .lst [.str "return", .str "joined", .str "nothin", .str "yes1"]) hp2)
    refine ⟨p, p2, _, _, rfl, rfl, same_new hp2 _ _ upd_same, upd_same, (by show 16 ≤ sizeLine; decide), fun p3 hp3 => ?_⟩
    have s3 := s2.trans (same_new (o := .lst (fixed16.map V.str)) hp3)
    have src3 := src.same s3
    have n3 : p3 ≠ a := (src.same s2).fresh hp3
    refine ⟨_, rfl, a, _, rfl, src3, by decide, by decide, fun d H4 d0 d1 src4 kb4 => ⟨rfl, _, rfl, ?_⟩⟩
    refine ite2 (fun hd => ?_) (fun hd => ?_)
    · refine ⟨_, rfl, _, rfl, a, _, rfl, src4, by decide, by decide, fun e H5 e0 e1 src5 kb5 => ?_⟩
      obtain ⟨z, hz, hm⟩ := at_in (l := fixed16.map V.str) e0 e1
      obtain ⟨y, hy, rfl⟩ := List.mem_map.mp hm
      refine ⟨p3, _, e, _, rfl, rfl, SqL.of (kb5 _ _ n3 (kb4 _ _ n3 upd_same)), hz, ?_⟩
      exact k y H5 (fixed_names y hy) src5 ((KeepBut.of_same s3).trans (kb4.trans kb5))
    · refine ⟨_, rfl, _, rfl, a, _, rfl, src4, by decide, by decide, fun e H5 e0 e1 src5 kb5 => ?_⟩
      obtain ⟨c, hc, cl⟩ := at_in (l := lets) e0 (by rw [show (lets.length : Int) = 26 from by decide +kernel]; exact e1)
      refine ⟨abc, e, c, rfl, rfl, (by decide), hc, ?_⟩
      have kbs : KeepBut a H H5 := (KeepBut.of_same s3).trans (kb4.trans kb5)
      refine ⟨_, rfl, a, _, rfl, src5, by decide, by decide, fun f H6 f0 f1 src6 kb6 => ⟨f, rfl, by omega, by omega, for_range (lo := 0) (n := f.toNat) (fun i σ H7 => ∃ (z : Str) (v4 : Option V), σ = [some (.ref a), some (.ref p3), some (.str abc), some (.str z), v4] ∧ WordS z (1 + i) ∧ Src H7 a ∧ KeepBut a H H7) ⟨_, _, rfl, WordS.one cl, src6, kbs.trans kb6⟩ ?_ ?_⟩⟩
      · rintro i σ H7 hi ⟨z, v4, rfl, wz, src7, kb7⟩
        refine ⟨_, rfl, _, rfl, _, _, rfl, rfl, (by decide), _, rfl, a, _, rfl, src7, by decide, by decide, fun g H8 g0 g1 src8 kb8 => ?_⟩
        obtain ⟨c2, hc2, cl2⟩ := at_in (l := sgns) g0 (by rw [show (sgns.length : Int) = 36 from by decide +kernel]; exact g1)
        refine ⟨_, g, c2, rfl, rfl, (by decide), hc2, z, ⟨#[c2]⟩, rfl, rfl, ?_, ?_⟩
        · have := wz.2.2.2
          rw [one_length]
          exact len5000 (by omega)
        · refine ⟨_, _, rfl, wz.add (m := 1) (fun x hx => ?_) (Nat.le_refl _), src8, kb7.trans kb8⟩
          have : x = c2 := by simpa using hx
          rw [this]
          exact cl2
      · rintro σ H7 ⟨z, v4, rfl, wz, src7, kb7⟩
        have w8 : WordS z 8 := wz.le (by omega)
        refine ⟨_, rfl, (by show 2 ≤ sizeLine; decide), fun q hq => ⟨q, _, rfl, Or.inl (SqL.of upd_same), rfl, rfl, _, rfl, ?_⟩⟩
        have kq := kb7.trans (KeepBut.of_same (same_new (o := .lst [.str "nothing", .str "yes"]) hq))
        have srq := src7.same (same_new (o := .lst [.str "nothing", .str "yes"]) hq)
        have fx : inV (.str z) [.str "nothing", .str "yes"] = fixedB z := inV_fixed z
        refine ite2 (fun h2 => ?_) (fun h2 => ?_)
        · have h2 : inV (.str z) [.str "nothing", .str "yes"] = true := h2
          rw [fx] at h2
          unfold fixedB at h2
          have nm : NameT (z ++ "0") := by
            rcases Bool.or_eq_true_iff.mp h2 with h2 | h2
            · rw [of_decide_eq_true h2]
              exact name_by (by decide +kernel)
            · rw [of_decide_eq_true h2]
              exact name_by (by decide +kernel)
          refine ⟨_, rfl, z, "0", rfl, rfl, ?_, k _ _ nm srq kq⟩
          have := w8.2.2.2
          exact len5000 (by show z.length + 1 ≤ 5000; omega)
        · have h2 : ¬ inV (.str z) [.str "nothing", .str "yes"] = true := h2
          have h2 := Bool.eq_false_iff.mpr h2
          rw [fx] at h2
          exact ⟨_, rfl, k z _ (w8.name h2) srq kq⟩
def spWords : Sp := fun vs H Q _ => ∃ (a : Addr) (m : Int), vs = [.ref a, .int m] ∧ Src H a ∧ 0 ≤ m ∧ m ≤ 7 ∧
  ∀ (p : Addr) (zs : List Str) (H' : Hp), H p = none → H' p = some (.lst (zs.map V.str)) → (zs.length : Int) = m → (∀ z ∈ zs, NameT z) → zs.Nodup → Src H' a → KeepBut a H H' → Q (.ref p) H'
abbrev eight : List Str := ["a", "b", "c", "d", "e", "f", "g", "h"]
theorem eight_names : ∀ z ∈ eight, NameT z := by
  have h : eight.all (fun z => nameB z && z.cps.toList.all Aln) = true := by decide +kernel
  exact fun z hz => name_by (List.all_eq_true.mp h z hz)
theorem nodup_len : ∀ {a b : List Str}, a.Nodup → a ⊆ b → a.length ≤ b.length
  | [], b, _, _ => Nat.zero_le _
  | x :: a, b, nd, sub => by
    have nd := List.nodup_cons.mp nd
    have hx : x ∈ b := sub List.mem_cons_self
    have h : a ⊆ b.erase x := fun y hy => by
      have hy2 := sub (List.mem_cons_of_mem _ hy)
      refine (List.mem_erase_of_ne ?_).mpr hy2
      rintro rfl
      exact nd.1 hy
    have := nodup_len nd.2 h
    rw [List.length_erase_of_mem hx] at this
    have : 0 < b.length := List.length_pos_of_mem hx
    rw [List.length_cons]
    omega
theorem eight_left {zs : List Str} (h : zs.length ≤ 7) : eight.filter (fun z => !decide (z ∈ zs)) ≠ [] := by
  intro e
  have sub : eight ⊆ zs := by
    intro z hz
    have := List.filter_eq_nil_iff.mp e z hz
    simpa using this
  have nd : eight.Nodup := by decide +kernel
  have := nodup_len nd sub
  have e8 : eight.length = 8 := rfl
  omega
theorem ok_law_words (T : Txt K mg A) : FnOk P w K mg base CX0 3 A.a_law_words A.d_law_words ["_law_source_here", "_law_many"] spWords := by
  have nd := sc_law_words.nd
  refine T.f_law_words.ok sc_law_words (fun vs H Q E h => ?_) (fun cdv A' outer s H vs Q E hr h => ?_)
  · obtain ⟨a, m, rfl, _⟩ := h
    rfl
  · obtain ⟨a, m, rfl, src, m0, m7, k⟩ := h
    -- from the test of the item on
    have last : ∃ t, PSs (cxOf CX0 P w K mg base nm_law_words "_law_words" (defScope st_law_words) A.a_law_words cdv A' outer s H E).nox ((forBody (stAt (defBody st_law_words) 1)).drop 2) t ∧ ∀ (D : Ends) (f : Addr) (i : Nat) (z : Str) (zs : List Str) (H4 : Hp) (v3 v5 : Option V), i < 7 → f ≠ a → H f = none → zs.length = i → (∀ z ∈ zs, NameT z) → zs.Nodup → NameT z → Src H4 a →
        (∀ b o, b ≠ a → b ≠ f → H b = some o → H4 b = some o) → H4 f = some (.lst (zs.map V.str)) →
        (∀ (σ : L2.St) (H5 : Hp), (∃ (ys : List Str) (v3 v4 v5 : Option V), σ = [some (.ref a), some (.int m), some (.ref f), v3, v4, v5] ∧ ys.length = i + 1 ∧ (∀ z ∈ ys, NameT z) ∧ ys.Nodup ∧ Src H5 a ∧ (∀ b o, b ≠ a → b ≠ f → H b = some o → H5 b = some o) ∧ H5 f = some (.lst (ys.map V.str))) → D.nx σ H5) →
        t D [some (.ref a), some (.int m), some (.ref f), v3, some (.str z), v5] H4 := by
      refine ⟨_, (pss_cons (ps_if (pt_cmpR op_in_seq (pv 4) (pv 2) (by rfl)) (pss_one (ps_set (i := 4) nd rfl (Or.inl rfl) (pe_ix ix_list (pe_lc (own := [("_law_mate", 5)]) (g := gName 5) rfl nd (pi_list (pe_lst (pa_cons pe_str (pa_cons pe_str (pa_cons pe_str (pa_cons pe_str (pa_cons pe_str (pa_cons pe_str (pa_cons pe_str (pa_cons pe_str pa_nil)))))))))) (blkOk_by (N := nm_law_words) (sc := defScope st_law_words) (by decide +kernel)) (fun _ _ _ _ _ => (pg_name (i := 5) nd rfl (Or.inl rfl))) (fun _ _ _ _ _ => (pts_one (pt_cmpR (show OpR _ _ (rIn K true) from op_notIn_seq) (pv 5) (pv 2) (by rfl)))) (fun _ _ _ _ _ => (pv 5))) pe_int (fun _ _ => rfl)))) pss_nil)
      (pss_one (ps_expr (pe_bm PySem.F.plainAttrs_list PySem.F.slot_list_append PySem.F.type_list_append mt_append (pv 2) (pa_cons (pv 4) pa_nil))))), fun D f i z zs H4 v3 v5 i7 nf hfn lz nz dz hz src4 kp hf4 q => ?_⟩
      have fin : ∀ (y : Str) (H5 : Hp) (v3 v5 : Option V), Same H4 H5 → NameT y → y ∉ zs → D.nx [some (.ref a), some (.int m), some (.ref f), v3, some (.str y), v5] (upd H5 f (.lst (zs.map V.str ++ [.str y]))) := by
        intro y H5 v3 v5 s5 hy ny
        refine q _ _ ⟨zs ++ [y], _, _, _, rfl, by rw [List.length_append, lz]; rfl, fun x hx => ?_, ?_, (src4.same s5).upd nf, fun b o n1 n2 e => ?_, ?_⟩
        · rcases List.mem_append.mp hx with hx | hx
          · exact nz x hx
          · rw [List.mem_singleton.mp hx]
            exact hy
        · rw [List.nodup_append]
          refine ⟨dz, by simp, fun x hx w hw e => ?_⟩
          rw [List.mem_singleton.mp hw] at e
          rw [e] at hx
          exact ny hx
        · rw [upd_ne n2]
          exact s5 _ _ (kp _ _ n1 n2 e)
        · rw [upd_same, List.map_append]
          rfl
      refine ⟨_, rfl, _, rfl, f, zs.map V.str, rfl, Or.inl (SqL.of hf4), rfl, all_flat_strs zs, _, rfl, ?_⟩
      have iv := inV_strs z zs
      refine ite2 (fun hin => ?_) (fun hin => ?_)
      · refine ⟨(by show 8 ≤ sizeLine; decide), fun q1 hq1 => ⟨q1, rfl, ⟨_, SqL.of upd_same⟩, fun D2 hD2 => lc_list (K := K) (a := q1) (xs := eight.map V.str) (fun j H5 => Same (upd H4 q1 (.lst (eight.map V.str))) H5 ∧ H5 D2 = some (.lst (((eight.take j).filter (fun z => !decide (z ∈ zs))).map V.str))) ⟨same_new hD2, upd_same⟩ (fun j H5 _ h => SqL.of (h.1 _ _ upd_same)) ?_ ?_⟩⟩
        · rintro j x H5 hx ⟨s5, h5⟩
          rw [List.getElem?_map] at hx
          obtain ⟨y, hy, rfl⟩ := Option.map_eq_some_iff.mp hx
          have s45 := (same_new (o := .lst (eight.map V.str)) hq1).trans s5
          refine ⟨rfl, _, rfl, _, rfl, f, zs.map V.str, rfl, Or.inl (SqL.of (s45 _ _ hf4)), rfl, all_flat_strs zs, _, rfl, ?_⟩
          have iv := inV_strs y zs
          have tk : (eight.take (j + 1)).filter (fun z => !decide (z ∈ zs)) = (eight.take j).filter (fun z => !decide (z ∈ zs)) ++ (if y ∈ zs then [] else [y]) := by
            rw [List.take_add_one, hy, List.filter_append]
            congr 1
            by_cases e : y ∈ zs <;> simp [e]
          refine ite2 (fun h => ?_) (fun h => ?_)
          · have h : (!inV (.str y) (zs.map V.str)) = true := h
            rw [iv] at h
            have hn : y ∉ zs := by simpa using h
            refine ⟨_, rfl, _, h5, ?_, ?_, ?_⟩
            · rw [List.length_map]
              exact lt5000 (Nat.lt_of_le_of_lt (List.length_filter_le _ _) (by rw [List.length_take]; show min j 8 < 5000; omega))
            · intro b o e
              rw [upd_ne (ne_of_none e hD2)]
              exact s5 _ _ e
            · rw [upd_same, tk, if_neg hn, List.map_append]
              rfl
          · have h : ¬ (!inV (.str y) (zs.map V.str)) = true := h
            rw [iv] at h
            have hn : y ∈ zs := by simpa using h
            refine ⟨s5, ?_⟩
            rw [h5, tk, if_pos hn, List.append_nil]
        · rintro H5 ⟨s5, h5⟩
          have ne := eight_left (zs := zs) (by omega)
          obtain ⟨y, ys, ey⟩ : ∃ y ys, eight.filter (fun z => !decide (z ∈ zs)) = y :: ys := by
            cases e : eight.filter (fun z => !decide (z ∈ zs)) with
            | nil => exact absurd e ne
            | cons y ys => exact ⟨y, ys, rfl⟩
          have hy : y ∈ eight ∧ y ∉ zs := by
            have : y ∈ eight.filter (fun z => !decide (z ∈ zs)) := by rw [ey]; exact List.mem_cons_self
            have := List.mem_filter.mp this
            exact ⟨this.1, by simpa using this.2⟩
          rw [List.take_of_length_le (by decide), ey] at h5
          have s45 := (same_new (o := .lst (eight.map V.str)) hq1).trans s5
          refine ⟨D2, _, _, .str y, rfl, rfl, SqL.of h5, atI_nat (j := 0) rfl, ?_⟩
          refine ⟨_, rfl, Or.inl ⟨rfl, _, SqL.of (s45 _ _ hf4)⟩, _, rfl, f, _, _, rfl, rfl, s45 _ _ hf4, ?_, fin y H5 _ _ s45 (eight_names y hy.1) hy.2⟩
          rw [List.length_map]
          exact lt5000 (by omega)
      · have hin : ¬ inV (.str z) (zs.map V.str) = true := hin
        rw [iv] at hin
        have hn : z ∉ zs := by simpa using hin
        refine ⟨_, rfl, Or.inl ⟨rfl, _, SqL.of hf4⟩, _, rfl, f, _, _, rfl, rfl, hf4, ?_, fin z H4 _ _ (Same.refl _) hz hn⟩
        rw [List.length_map]
        exact lt5000 (by omega)
    obtain ⟨t2, D2, rest2⟩ := last
    refine ⟨_, (pss_cons (ps_set (i := 2) nd rfl (Or.inr rfl) (pe_lst pa_nil))
      (pss_cons (ps_for PassesOwn.never rfl (pi_range1 (by rfl) T.b_range (pa_cons (pv 1) pa_nil)) (pg_name (i := 3) nd rfl (Or.inl rfl)) (pss_cons (ps_set (i := 4) nd rfl (Or.inl rfl) (pe_call (ok_law_word T) (hr.mono (by decide)) (by rfl) T.m_law_word T.k_law_word T.v_law_word .nil pass0 (pa_cons (pv 0) pa_nil)))
      (pss_cons (ps_if (PW.pt (pw_and (pt_cmpR (op_neD hr.units) (pv 2) (pe_lst pa_nil) (nomark _)) (pw_and1 (pt_cmpR op_eq (pe_call (ok_law_take T) (hr.mono (by decide)) (by rfl) T.m_law_take T.k_law_take T.v_law_take .nil pass0 (pa_cons (pv 0) (pa_cons pe_int pa_nil))) pe_int (nomark _))))) (pss_one (ps_set (i := 4) nd rfl (Or.inl rfl) (pe_op op_add_str (pe_slice sl_str (pe_ix ix_list (pv 2) (pe_un un_neg pe_int) (fun _ _ => rfl)) po_none (po_some (pe_op op_add pe_int (pe_call (ok_law_take T) (hr.mono (by decide)) (by rfl) T.m_law_take T.k_law_take T.v_law_take .nil pass0 (pa_cons (pv 0) (pa_cons pe_int pa_nil)))))) pe_str))) pss_nil)
      D2)))
      (pss_one (ps_ret (pv 2))))), ?_⟩
    refine ⟨Nat.zero_le _, fun f hf => ?_⟩
    have nf : f ≠ a := src.fresh hf
    have s1 := same_new (o := .lst []) hf
    refine ⟨_, rfl, m, rfl, by omega, by omega, for_range (lo := 0) (n := m.toNat) (fun i σ H2 => ∃ (zs : List Str) (v3 v4 v5 : Option V), σ = [some (.ref a), some (.int m), some (.ref f), v3, v4, v5] ∧ zs.length = i ∧ (∀ z ∈ zs, NameT z) ∧ zs.Nodup ∧ Src H2 a ∧
      (∀ b o, b ≠ a → b ≠ f → H b = some o → H2 b = some o) ∧ H2 f = some (.lst (zs.map V.str))) ⟨[], _, _, _, rfl, rfl, fun _ h => (List.not_mem_nil h).elim, List.nodup_nil, src.same s1, fun b o _ _ e => s1 _ _ e, upd_same⟩ ?_ ?_⟩
    · rintro i σ H2 hi ⟨zs, v3, v4, v5, rfl, lz, nz, dz, src2, kp, hff⟩
      refine ⟨_, rfl, a, rfl, src2, fun z H3 hz src3 kb3 => ?_⟩
      have hf3 := kb3 _ _ nf hff
      have kp3 : ∀ b o, b ≠ a → b ≠ f → H b = some o → H3 b = some o := fun b o n1 n2 e => kb3 _ _ n1 (kp b o n1 n2 e)
      refine ⟨_, rfl, Nat.zero_le _, fun q hq => ⟨.list (zs.map PyData.str), .list [], .lst (SqL.of (same_new hq _ _ hf3)) (dp_strs zs), .lst (SqL.of upd_same) .nil, shaped_strs fun y hy => AlnT.asc (nz y hy).2.1, by decide +kernel, _, rfl, ?_⟩⟩
      have s4 := same_new (o := .lst []) hq
      have src4 := src3.same s4
      have hf4 := s4 _ _ hf3
      have kp4 : ∀ b o, b ≠ a → b ≠ f → H b = some o → (upd H3 q (.lst [])) b = some o := fun b o n1 n2 e => s4 _ _ (kp3 b o n1 n2 e)
      refine ite2 (fun hne => ?_) (fun hne => ?_)
      · refine ⟨_, rfl, a, _, rfl, src4, by decide, by decide, fun d H5 d0 d1 src5 kb5 => ⟨rfl, _, rfl, ?_⟩⟩
        have hf5 := kb5 _ _ nf hf4
        have kp5 : ∀ b o, b ≠ a → b ≠ f → H b = some o → H5 b = some o := fun b o n1 n2 e => kb5 _ _ n1 (kp4 b o n1 n2 e)
        refine ite2 (fun _ => ?_) (fun _ => ?_)
        · obtain ⟨ys, y, ey⟩ : ∃ ys y, zs = ys ++ [y] := by
            rcases List.eq_nil_or_concat zs with e | ⟨ys, y, e⟩
            · subst e
              exact absurd hne (by decide +kernel)
            · exact ⟨ys, y, by rw [e, List.concat_eq_append]⟩
          have hy := nz y (by rw [ey]; simp)
          refine ⟨_, rfl, _, rfl, f, _, _, .str y, rfl, rfl, SqL.of hf5, ?_, ?_⟩
          · rw [ey, List.map_append]
            exact atI_last _ _
          refine ⟨_, rfl, a, _, rfl, src5, by decide, by decide, fun e H6 e0 e1 src6 kb6 => ⟨_, _, rfl, rfl, _, rfl, y, rfl, len5000 (by have := hy.2.2; omega), ?_⟩⟩
          have nz' := cut_z hy e0 e1
          refine ⟨_, _, rfl, rfl, len5000 (by have := nz'.2.2; rw [app_length] at this; omega), ?_⟩
          exact rest2 _ f i _ zs H6 _ _ (by omega) nf hf lz nz dz nz' src6 (fun b o n1 n2 e => kb6 _ _ n1 (kp5 b o n1 n2 e)) (kb6 _ _ nf hf5) fun σ H5 h => h
        · exact rest2 _ f i z zs H5 _ _ (by omega) nf hf lz nz dz hz src5 kp5 hf5 fun σ H5 h => h
      · exact rest2 _ f i z zs _ _ _ (by omega) nf hf lz nz dz hz src4 kp4 hf4 fun σ H5 h => h
    · rintro σ H2 ⟨zs, v3, v4, v5, rfl, lz, nz, dz, src2, kp, hff⟩
      refine ⟨_, rfl, k f zs H2 hf hff (by omega) nz dz src2 ?_⟩
      exact fun b o hb e => kp b o hb (ne_of_none e hf) e
end
end K03
set_option Elab.async false
set_option linter.all false
set_option maxRecDepth 100000
set_option maxHeartbeats 4000000
namespace K03
open PySem PySem.Spec PyProof.Rows L2 Mo
/-! ### trees of one line: the number of the kind, the words, the line -/
inductive One : Nat → List Str → Str → Prop where
  | look {c i : Str} (hc : NameT c) (hi : NameT i) : One 0 ["look", c, i] ("look " ++ c ++ " into " ++ i)
  | put {c o : Str} (hc : NameT c) (ho : OperT o) : One 1 ["put", c, o] ("put " ++ c ++ " " ++ o)
  | swap {c o i : Str} (hc : NameT c) (ho : OperT o) (hi : NameT i) : One 2 ["swap", c, o, i] ("swap " ++ c ++ " " ++ o ++ " into " ++ i)
  | try_ {c o n i : Str} (hc : NameT c) (ho : OperT o) (hn : OperT n) (hi : NameT i) : One 3 ["try", c, o, n, i] ("try " ++ c ++ " " ++ o ++ " " ++ n ++ " into " ++ i)
  | let_ {i o : Str} (hi : NameT i) (ho : OperT o) : One 4 ["let", i, o] ("let " ++ i ++ " " ++ o)
  | leave : One 5 ["leave"] "leave"
  | ret {o : Str} (ho : OperT o) : One 6 ["return", o] ("return " ++ o)
theorem One.line_ok {k : Nat} {xs : List Str} {line : Str} (h : One k xs line) : line.length ≤ 200 ∧ AlnT line := by
  have l1 : ("look " : Str).length = 5 := rfl
  have l2 : (" into " : Str).length = 6 := rfl
  have l3 : ("put " : Str).length = 4 := rfl
  have l4 : (" " : Str).length = 1 := rfl
  have l5 : ("swap " : Str).length = 5 := rfl
  have l6 : ("try " : Str).length = 4 := rfl
  have l7 : ("let " : Str).length = 4 := rfl
  have l8 : ("return " : Str).length = 7 := rfl
  have a : ∀ {x : Str}, x.cps.toList.all Aln = true → AlnT x := aln_by
  cases h with
  | look hc hi =>
    have := hc.2.2
    have := hi.2.2
    exact ⟨by simp only [app_length, l1, l2]; omega, aln_app (aln_app (aln_app (a (by decide +kernel)) hc.2.1) (a (by decide +kernel))) hi.2.1⟩
  | put hc ho =>
    have := hc.2.2
    have := ho.2.2
    exact ⟨by simp only [app_length, l3, l4]; omega, aln_app (aln_app (aln_app (a (by decide +kernel)) hc.2.1) (a (by decide +kernel))) ho.2.1⟩
  | swap hc ho hi =>
    have := hc.2.2
    have := ho.2.2
    have := hi.2.2
    exact ⟨by simp only [app_length, l5, l4, l2]; omega, aln_app (aln_app (aln_app (aln_app (aln_app (a (by decide +kernel)) hc.2.1) (a (by decide +kernel))) ho.2.1) (a (by decide +kernel))) hi.2.1⟩
  | try_ hc ho hn hi =>
    have := hc.2.2
    have := ho.2.2
    have := hn.2.2
    have := hi.2.2
    exact ⟨by simp only [app_length, l6, l4, l2]; omega, aln_app (aln_app (aln_app (aln_app (aln_app (aln_app (aln_app (a (by decide +kernel)) hc.2.1) (a (by decide +kernel))) ho.2.1) (a (by decide +kernel))) hn.2.1) (a (by decide +kernel))) hi.2.1⟩
  | let_ hi ho =>
    have := hi.2.2
    have := ho.2.2
    exact ⟨by simp only [app_length, l7, l4]; omega, aln_app (aln_app (aln_app (a (by decide +kernel)) hi.2.1) (a (by decide +kernel))) ho.2.1⟩
  | leave => exact ⟨by decide, a (by decide +kernel)⟩
  | ret ho =>
    have := ho.2.2
    exact ⟨by simp only [app_length, l8]; omega, aln_app (a (by decide +kernel)) ho.2.1⟩
theorem join1 (y x : Str) : Txt.join y [x] = x := by rw [TL.join_eq]; rfl
theorem join2 (y x z : Str) : Txt.join y [x, z] = x ++ y ++ z := by rw [TL.join_eq]; rfl
theorem join3 (y x z u : Str) : Txt.join y [x, z, u] = x ++ y ++ (z ++ y ++ u) := by rw [TL.join_eq]; rfl
theorem join4 (y x z u v : Str) : Txt.join y [x, z, u, v] = x ++ y ++ (z ++ y ++ (u ++ y ++ v)) := by rw [TL.join_eq]; rfl
theorem app_assoc (x y z : Str) : x ++ y ++ z = x ++ (y ++ z) := str_ext (by simp only [cp, cps_app, List.append_assoc])
section
variable {w : World} {K : PySem.W.Frag} {mg : Str → Option Value} {base : Heap} {A : Ads}
def spHead : Sp := fun vs H Q _ => ∃ (p : Addr) (k : Nat) (xs : List Str) (line : Str), vs = [.ref p] ∧ H p = some (.tup (xs.map V.str)) ∧ One k xs line ∧ ∀ H', Same H H' → Q (.str line) H'
theorem slX_ok {K : PySem.W.Frag} {H : Hp} {p : Addr} {xs : List V} {lo hi : Option Int} {Q : VK} (t : SqT K H p xs) (h : ∀ p1 H1, Same H H1 → SqT K H1 p1 (cutV xs lo hi) → Q (.ref p1) H1) : rSlX1 K (.ref p) lo hi H Q :=
  ⟨p, xs, rfl, t, fun e => h p H (Same.refl H) (by rw [e]; exact t), fun p1 ob hd hp => h p1 _ (same_new hp) (.inl (.inr ⟨ob, upd_same⟩))⟩
theorem ok_law_head (T : Txt K mg A) : FnOk P w K mg base CX0 1 A.a_law_head A.d_law_head ["_law_tree"] spHead := by
  have nd := sc_law_head.nd
  refine T.f_law_head.ok sc_law_head (fun vs H Q E h => ?_) (fun cdv A' outer s H vs Q E hr h => ?_)
  · obtain ⟨p, k, xs, line, rfl, _⟩ := h
    rfl
  · obtain ⟨p, k, xs, line, rfl, hp, one, q⟩ := h
    have lo := one.line_ok
    have hq : SqT K H p (xs.map V.str) := SqT.of hp
    refine ⟨_, (pss_cons (ps_if (pt_cmpR op_eq (pe_ix ix_tup (pv 0) pe_int (fun _ _ => rfl)) pe_str (nomark _)) (pss_one (ps_ret (pe_op op_add_str (pe_op op_add_str (pe_op op_add_str pe_str (pe_ix ix_tup (pv 0) pe_int (fun _ _ => rfl))) pe_str) (pe_ix ix_tup (pv 0) pe_int (fun _ _ => rfl))))) pss_nil)
      (pss_cons (ps_if (pt_cmpR op_in_seq (pe_ix ix_tup (pv 0) pe_int (fun _ _ => rfl)) (pe_lst (pa_cons pe_str (pa_cons pe_str pa_nil))) (by rfl)) (pss_one (ps_ret (pe_ix ix_tup (pv 0) pe_int (fun _ _ => rfl)))) pss_nil)
      (pss_cons (ps_if (pt_cmpR op_in_seq (pe_ix ix_tup (pv 0) pe_int (fun _ _ => rfl)) (pe_lst (pa_cons pe_str (pa_cons pe_str (pa_cons pe_str pa_nil)))) (by rfl)) (pss_one (ps_ret (pe_op op_add_str (pe_op op_add_str (pe_join pe_str (pe_callTy call_list_of (by rfl) T.b_list (by decide +kernel) (pa_cons (pe_slice sl_tupX (pv 0) po_none (po_some (pe_un un_neg pe_int))) pa_nil))) pe_str) (pe_ix ix_tup (pv 0) (pe_un un_neg pe_int) (fun _ _ => rfl))))) pss_nil)
      (pss_one (ps_ret (pe_join pe_str (pe_callTy call_list_of (by rfl) T.b_list (by decide +kernel) (pa_cons (pv 0) pa_nil)))))))), ?_⟩
    have lsp : (" " : Str).length = 1 := rfl
    cases one with
    | @look c i hc hi =>
      refine ⟨_, rfl, p, _, _, _, rfl, rfl, hq, atI_nat (j := 0) rfl, rfl, _, rfl, ?_⟩
      refine ⟨_, rfl, p, _, _, _, rfl, rfl, hq, atI_nat (j := 0) rfl, (by show 2 ≤ sizeLine; decide), fun q1 n1 => ⟨q1, _, rfl, Or.inl (SqL.of upd_same), rfl, rfl, _, rfl, ?_⟩⟩
      have s1 := same_new (o := .lst [.str "loop", .str "joined"]) n1
      refine ⟨_, rfl, p, _, _, _, rfl, rfl, (KpT.of_same s1).sq hq, atI_nat (j := 0) rfl, (by show 3 ≤ sizeLine; decide), fun q2 n2 => ⟨q2, _, rfl, Or.inl (SqL.of upd_same), rfl, rfl, _, rfl, ?_⟩⟩
      have s2 := s1.trans (same_new (o := .lst [.str "look", .str "swap", .str "try"]) n2)
      have := hc.2.2
      have := hi.2.2
      have lw : ("look" : Str).length = 4 := rfl
      have wd : ("look " : Str) = "look" ++ " " := str_ext (by decide +kernel)
      have e : Txt.join " " ["look", c] ++ " into " ++ i = ("look " : Str) ++ c ++ " into " ++ i := by
        rw [join2, wd]
        try simp only [app_assoc]
      have ll := lo.1
      rw [← e, app_length, app_length] at ll
      refine ⟨⟨_, rfl⟩, _, rfl, 1, rfl, -1, rfl, slX_ok ((KpT.of_same s2).sq hq) fun p1 H3 s3 h3 => ?_⟩
      refine ⟨p1, _, rfl, .inr h3, fun l hl => ⟨" ", l, ["look", c], rfl, rfl, .inl (SqL.of upd_same), by simp only [List.map_cons, List.map_nil, List.sum_cons, List.sum_nil, List.length_cons, List.length_nil, lw, lsp]; omega, ?_⟩⟩
      have s4 := (s2.trans s3).trans (same_new (o := .lst ((["look", c] : List Str).map V.str)) hl)
      refine ⟨_, _, rfl, rfl, len5000 (by omega), _, rfl, 1, rfl, p, _, _, _, rfl, rfl, (KpT.of_same s4).sq hq, rfl, _, _, rfl, rfl, len5000 (by rw [app_length]; omega), ?_⟩
      have r := q _ s4
      rw [← e] at r
      exact r
    | @put c o hc ho =>
      refine ⟨_, rfl, p, _, _, _, rfl, rfl, hq, atI_nat (j := 0) rfl, rfl, _, rfl, ?_⟩
      refine ⟨_, rfl, p, _, _, _, rfl, rfl, hq, atI_nat (j := 0) rfl, (by show 2 ≤ sizeLine; decide), fun q1 n1 => ⟨q1, _, rfl, Or.inl (SqL.of upd_same), rfl, rfl, _, rfl, ?_⟩⟩
      have s1 := same_new (o := .lst [.str "loop", .str "joined"]) n1
      refine ⟨_, rfl, p, _, _, _, rfl, rfl, (KpT.of_same s1).sq hq, atI_nat (j := 0) rfl, (by show 3 ≤ sizeLine; decide), fun q2 n2 => ⟨q2, _, rfl, Or.inl (SqL.of upd_same), rfl, rfl, _, rfl, ?_⟩⟩
      have s2 := s1.trans (same_new (o := .lst [.str "look", .str "swap", .str "try"]) n2)
      have := hc.2.2
      have := ho.2.2
      have lw : ("put" : Str).length = 3 := rfl
      have wd : ("put " : Str) = "put" ++ " " := str_ext (by decide +kernel)
      have e : Txt.join " " ["put", c, o] = ("put " : Str) ++ c ++ " " ++ o := by
        rw [join3, wd]
        try simp only [app_assoc]
      refine ⟨⟨_, rfl⟩, _, rfl, p, _, rfl, .inr ((KpT.of_same s2).sq hq), fun l hl => ⟨" ", l, ["put", c, o], rfl, rfl, .inl (SqL.of upd_same), by simp only [List.map_cons, List.map_nil, List.sum_cons, List.sum_nil, List.length_cons, List.length_nil, lw, lsp]; omega, ?_⟩⟩
      have r := q _ (s2.trans (same_new (o := .lst ((["put", c, o] : List Str).map V.str)) hl))
      rw [← e] at r
      exact r
    | @swap c o i hc ho hi =>
      refine ⟨_, rfl, p, _, _, _, rfl, rfl, hq, atI_nat (j := 0) rfl, rfl, _, rfl, ?_⟩
      refine ⟨_, rfl, p, _, _, _, rfl, rfl, hq, atI_nat (j := 0) rfl, (by show 2 ≤ sizeLine; decide), fun q1 n1 => ⟨q1, _, rfl, Or.inl (SqL.of upd_same), rfl, rfl, _, rfl, ?_⟩⟩
      have s1 := same_new (o := .lst [.str "loop", .str "joined"]) n1
      refine ⟨_, rfl, p, _, _, _, rfl, rfl, (KpT.of_same s1).sq hq, atI_nat (j := 0) rfl, (by show 3 ≤ sizeLine; decide), fun q2 n2 => ⟨q2, _, rfl, Or.inl (SqL.of upd_same), rfl, rfl, _, rfl, ?_⟩⟩
      have s2 := s1.trans (same_new (o := .lst [.str "look", .str "swap", .str "try"]) n2)
      have := hc.2.2
      have := ho.2.2
      have := hi.2.2
      have lw : ("swap" : Str).length = 4 := rfl
      have wd : ("swap " : Str) = "swap" ++ " " := str_ext (by decide +kernel)
      have e : Txt.join " " ["swap", c, o] ++ " into " ++ i = ("swap " : Str) ++ c ++ " " ++ o ++ " into " ++ i := by
        rw [join3, wd]
        try simp only [app_assoc]
      have ll := lo.1
      rw [← e, app_length, app_length] at ll
      refine ⟨⟨_, rfl⟩, _, rfl, 1, rfl, -1, rfl, slX_ok ((KpT.of_same s2).sq hq) fun p1 H3 s3 h3 => ?_⟩
      refine ⟨p1, _, rfl, .inr h3, fun l hl => ⟨" ", l, ["swap", c, o], rfl, rfl, .inl (SqL.of upd_same), by simp only [List.map_cons, List.map_nil, List.sum_cons, List.sum_nil, List.length_cons, List.length_nil, lw, lsp]; omega, ?_⟩⟩
      have s4 := (s2.trans s3).trans (same_new (o := .lst ((["swap", c, o] : List Str).map V.str)) hl)
      refine ⟨_, _, rfl, rfl, len5000 (by omega), _, rfl, 1, rfl, p, _, _, _, rfl, rfl, (KpT.of_same s4).sq hq, rfl, _, _, rfl, rfl, len5000 (by rw [app_length]; omega), ?_⟩
      have r := q _ s4
      rw [← e] at r
      exact r
    | @try_ c o n i hc ho hn hi =>
      refine ⟨_, rfl, p, _, _, _, rfl, rfl, hq, atI_nat (j := 0) rfl, rfl, _, rfl, ?_⟩
      refine ⟨_, rfl, p, _, _, _, rfl, rfl, hq, atI_nat (j := 0) rfl, (by show 2 ≤ sizeLine; decide), fun q1 n1 => ⟨q1, _, rfl, Or.inl (SqL.of upd_same), rfl, rfl, _, rfl, ?_⟩⟩
      have s1 := same_new (o := .lst [.str "loop", .str "joined"]) n1
      refine ⟨_, rfl, p, _, _, _, rfl, rfl, (KpT.of_same s1).sq hq, atI_nat (j := 0) rfl, (by show 3 ≤ sizeLine; decide), fun q2 n2 => ⟨q2, _, rfl, Or.inl (SqL.of upd_same), rfl, rfl, _, rfl, ?_⟩⟩
      have s2 := s1.trans (same_new (o := .lst [.str "look", .str "swap", .str "try"]) n2)
      have := hc.2.2
      have := ho.2.2
      have := hn.2.2
      have := hi.2.2
      have lw : ("try" : Str).length = 3 := rfl
      have wd : ("try " : Str) = "try" ++ " " := str_ext (by decide +kernel)
      have e : Txt.join " " ["try", c, o, n] ++ " into " ++ i = ("try " : Str) ++ c ++ " " ++ o ++ " " ++ n ++ " into " ++ i := by
        rw [join4, wd]
        try simp only [app_assoc]
      have ll := lo.1
      rw [← e, app_length, app_length] at ll
      refine ⟨⟨_, rfl⟩, _, rfl, 1, rfl, -1, rfl, slX_ok ((KpT.of_same s2).sq hq) fun p1 H3 s3 h3 => ?_⟩
      refine ⟨p1, _, rfl, .inr h3, fun l hl => ⟨" ", l, ["try", c, o, n], rfl, rfl, .inl (SqL.of upd_same), by simp only [List.map_cons, List.map_nil, List.sum_cons, List.sum_nil, List.length_cons, List.length_nil, lw, lsp]; omega, ?_⟩⟩
      have s4 := (s2.trans s3).trans (same_new (o := .lst ((["try", c, o, n] : List Str).map V.str)) hl)
      refine ⟨_, _, rfl, rfl, len5000 (by omega), _, rfl, 1, rfl, p, _, _, _, rfl, rfl, (KpT.of_same s4).sq hq, rfl, _, _, rfl, rfl, len5000 (by rw [app_length]; omega), ?_⟩
      have r := q _ s4
      rw [← e] at r
      exact r
    | @let_ i o hi ho =>
      refine ⟨_, rfl, p, _, _, _, rfl, rfl, hq, atI_nat (j := 0) rfl, rfl, _, rfl, ?_⟩
      refine ⟨_, rfl, p, _, _, _, rfl, rfl, hq, atI_nat (j := 0) rfl, (by show 2 ≤ sizeLine; decide), fun q1 n1 => ⟨q1, _, rfl, Or.inl (SqL.of upd_same), rfl, rfl, _, rfl, ?_⟩⟩
      have s1 := same_new (o := .lst [.str "loop", .str "joined"]) n1
      refine ⟨_, rfl, p, _, _, _, rfl, rfl, (KpT.of_same s1).sq hq, atI_nat (j := 0) rfl, (by show 3 ≤ sizeLine; decide), fun q2 n2 => ⟨q2, _, rfl, Or.inl (SqL.of upd_same), rfl, rfl, _, rfl, ?_⟩⟩
      have s2 := s1.trans (same_new (o := .lst [.str "look", .str "swap", .str "try"]) n2)
      have := hi.2.2
      have := ho.2.2
      have lw : ("let" : Str).length = 3 := rfl
      have wd : ("let " : Str) = "let" ++ " " := str_ext (by decide +kernel)
      have e : Txt.join " " ["let", i, o] = ("let " : Str) ++ i ++ " " ++ o := by
        rw [join3, wd]
        try simp only [app_assoc]
      refine ⟨⟨_, rfl⟩, _, rfl, p, _, rfl, .inr ((KpT.of_same s2).sq hq), fun l hl => ⟨" ", l, ["let", i, o], rfl, rfl, .inl (SqL.of upd_same), by simp only [List.map_cons, List.map_nil, List.sum_cons, List.sum_nil, List.length_cons, List.length_nil, lw, lsp]; omega, ?_⟩⟩
      have r := q _ (s2.trans (same_new (o := .lst ((["let", i, o] : List Str).map V.str)) hl))
      rw [← e] at r
      exact r
    | leave =>
      refine ⟨_, rfl, p, _, _, _, rfl, rfl, hq, atI_nat (j := 0) rfl, rfl, _, rfl, ?_⟩
      refine ⟨_, rfl, p, _, _, _, rfl, rfl, hq, atI_nat (j := 0) rfl, (by show 2 ≤ sizeLine; decide), fun q1 n1 => ⟨q1, _, rfl, Or.inl (SqL.of upd_same), rfl, rfl, _, rfl, ?_⟩⟩
      have s1 := same_new (o := .lst [.str "loop", .str "joined"]) n1
      refine ⟨_, rfl, p, _, _, _, rfl, rfl, (KpT.of_same s1).sq hq, atI_nat (j := 0) rfl, (by show 3 ≤ sizeLine; decide), fun q2 n2 => ⟨q2, _, rfl, Or.inl (SqL.of upd_same), rfl, rfl, _, rfl, ?_⟩⟩
      have s2 := s1.trans (same_new (o := .lst [.str "look", .str "swap", .str "try"]) n2)
      have lw : ("leave" : Str).length = 5 := rfl
      have e : Txt.join " " ["leave"] = "leave" := join1 _ _
      refine ⟨⟨_, rfl⟩, _, rfl, p, _, rfl, .inr ((KpT.of_same s2).sq hq), fun l hl => ⟨" ", l, ["leave"], rfl, rfl, .inl (SqL.of upd_same), by simp only [List.map_cons, List.map_nil, List.sum_cons, List.sum_nil, List.length_cons, List.length_nil, lw, lsp]; omega, ?_⟩⟩
      have r := q _ (s2.trans (same_new (o := .lst ((["leave"] : List Str).map V.str)) hl))
      rw [← e] at r
      exact r
    | @ret o ho =>
      refine ⟨_, rfl, p, _, _, _, rfl, rfl, hq, atI_nat (j := 0) rfl, rfl, _, rfl, ?_⟩
      refine ⟨_, rfl, p, _, _, _, rfl, rfl, hq, atI_nat (j := 0) rfl, (by show 2 ≤ sizeLine; decide), fun q1 n1 => ⟨q1, _, rfl, Or.inl (SqL.of upd_same), rfl, rfl, _, rfl, ?_⟩⟩
      have s1 := same_new (o := .lst [.str "loop", .str "joined"]) n1
      refine ⟨_, rfl, p, _, _, _, rfl, rfl, (KpT.of_same s1).sq hq, atI_nat (j := 0) rfl, (by show 3 ≤ sizeLine; decide), fun q2 n2 => ⟨q2, _, rfl, Or.inl (SqL.of upd_same), rfl, rfl, _, rfl, ?_⟩⟩
      have s2 := s1.trans (same_new (o := .lst [.str "look", .str "swap", .str "try"]) n2)
      have := ho.2.2
      have lw : ("return" : Str).length = 6 := rfl
      have wd : ("return " : Str) = "return" ++ " " := str_ext (by decide +kernel)
      have e : Txt.join " " ["return", o] = ("return " : Str) ++ o := by
        rw [join2, wd]
        try simp only [app_assoc]
      refine ⟨⟨_, rfl⟩, _, rfl, p, _, rfl, .inr ((KpT.of_same s2).sq hq), fun l hl => ⟨" ", l, ["return", o], rfl, rfl, .inl (SqL.of upd_same), by simp only [List.map_cons, List.map_nil, List.sum_cons, List.sum_nil, List.length_cons, List.length_nil, lw, lsp]; omega, ?_⟩⟩
      have r := q _ (s2.trans (same_new (o := .lst ((["return", o] : List Str).map V.str)) hl))
      rw [← e] at r
      exact r
end
end K03
set_option Elab.async false
set_option linter.all false
set_option maxRecDepth 100000
set_option maxHeartbeats 4000000
namespace K03
open PySem PySem.Spec PyProof.Rows L2 Mo
section
variable {w : World} {K : PySem.W.Frag} {mg : Str → Option Value} {base : Heap} {A : Ads}
def oneD (k : Nat) (line : Str) : Sd := ⟨k, 1, 1, [line]⟩
def spMade (K : PySem.W.Frag) (A : Ads) : Sp := fun vs H Q _ => ∃ (a p : Addr) (k : Nat) (xs : List Str) (line : Str), vs = [.ref a, .ref p] ∧ Src H a ∧ H p = some (.tup (xs.map V.str)) ∧ One k xs line ∧
  ∀ (q : Addr) (H' : Hp), H q = none → StAt K A H' q (oneD k line) [] [] → Src H' a → KeepBut a H H' → Q (.ref q) H'
/-- the end: an object is made -/
theorem made_fin {H H2 H' : Hp} {a x dx C : Addr} (src : Src H2 a) (kb : KeepBut a H H2) (nx : H2 x = none) (ndx : H2 dx = none) (nex : dx ≠ x) (h : KeepBut x (upd (upd H2 dx (.own x)) x (.ins C dx [])) H') (hn : x ≠ a) : Src H' a ∧ KeepBut a H H' := by
  have k2 : ∀ b o, H2 b = some o → H' b = some o := by
    intro b o e
    have n1 : b ≠ x := ne_of_none e nx
    have n2 : b ≠ dx := ne_of_none e ndx
    refine h b o n1 ?_
    rw [upd_ne n1, upd_ne n2]
    exact e
  obtain ⟨x1, y1, c1, e1, r⟩ := src
  exact ⟨⟨x1, y1, c1, k2 _ _ e1, r⟩, fun b o nb e => k2 _ _ (kb b o nb e)⟩
theorem ok_law_made (T : Txt K mg A) : FnOk P w K mg base CX0 8 A.a_law_made A.d_law_made ["_law_source_here", "_law_tree"] (spMade K A) := by
  have nd := sc_law_made.nd
  refine T.f_law_made.ok sc_law_made (fun vs H Q E h => ?_) (fun cdv A' outer s H vs Q E hr h => ?_)
  · obtain ⟨a, p, k, xs, line, rfl, _⟩ := h
    rfl
  · obtain ⟨a, p, k, xs, line, rfl, src, hp, one, q⟩ := h
    have npa : p ≠ a := by
      obtain ⟨x1, y1, c1, e1, _⟩ := src
      exact ne_of hp e1 (by intro z; cases z)
    refine ⟨_, (pss_cons (ps_par (i := 2) (j := 3) rfl nd rfl rfl (by decide) rfl rfl (pa_cons (pe_call (ok_law_take T) (hr.mono (by decide)) (by rfl) T.m_law_take T.k_law_take T.v_law_take .nil pass0 (pa_cons (pv 0) (pa_cons pe_int pa_nil))) (pa_cons (pe_ix ix_tup (pv 1) pe_int (fun _ _ => rfl)) pa_nil)) (by rfl))
      (pss_cons (ps_if (pt_cmpR op_eq (pv 3) pe_str (nomark _)) (pss_one (ps_ret (pe_ifExp (pt_cmpR op_eq (pv 2) pe_int (nomark _)) (pe_make T.mk_Look (ok_Look___init__ T) (hr.mono (by decide)) (by rfl) T.m_Look T.v_Look___init__ .nil pass0 (pa_cons (pe_ix ix_tup (pv 1) pe_int (fun _ _ => rfl)) (pa_cons (pe_ix ix_tup (pv 1) pe_int (fun _ _ => rfl)) pa_nil))) (pe_makeK0 T.mk_Look (ok_Look___init__ T) (hr.mono (by decide)) (by rfl) T.m_Look T.kb_Look pass0 (pk_cons (pe_ix ix_tup (pv 1) pe_int (fun _ _ => rfl)) (pk_cons (pe_ix ix_tup (pv 1) pe_int (fun _ _ => rfl)) pk_nil)))))) pss_nil)
      (pss_cons (ps_if (pt_cmpR op_eq (pv 3) pe_str (nomark _)) (pss_one (ps_ret (pe_ifExp (pt_cmpR op_eq (pv 2) pe_int (nomark _)) (pe_make T.mk_Put (ok_Put___init__ T) (hr.mono (by decide)) (by rfl) T.m_Put T.v_Put___init__ .nil pass0 (pa_cons (pe_ix ix_tup (pv 1) pe_int (fun _ _ => rfl)) (pa_cons (pe_ix ix_tup (pv 1) pe_int (fun _ _ => rfl)) pa_nil))) (pe_makeK0 T.mk_Put (ok_Put___init__ T) (hr.mono (by decide)) (by rfl) T.m_Put T.kb_Put pass0 (pk_cons (pe_ix ix_tup (pv 1) pe_int (fun _ _ => rfl)) (pk_cons (pe_ix ix_tup (pv 1) pe_int (fun _ _ => rfl)) pk_nil)))))) pss_nil)
      (pss_cons (ps_if (pt_cmpR op_eq (pv 3) pe_str (nomark _)) (pss_one (ps_ret (pe_ifExp (pt_cmpR op_eq (pv 2) pe_int (nomark _)) (pe_make T.mk_Swap (ok_Swap___init__ T) (hr.mono (by decide)) (by rfl) T.m_Swap T.v_Swap___init__ .nil pass0 (pa_cons (pe_ix ix_tup (pv 1) pe_int (fun _ _ => rfl)) (pa_cons (pe_ix ix_tup (pv 1) pe_int (fun _ _ => rfl)) (pa_cons (pe_ix ix_tup (pv 1) pe_int (fun _ _ => rfl)) pa_nil)))) (pe_makeK0 T.mk_Swap (ok_Swap___init__ T) (hr.mono (by decide)) (by rfl) T.m_Swap T.kb_Swap pass0 (pk_cons (pe_ix ix_tup (pv 1) pe_int (fun _ _ => rfl)) (pk_cons (pe_ix ix_tup (pv 1) pe_int (fun _ _ => rfl)) (pk_cons (pe_ix ix_tup (pv 1) pe_int (fun _ _ => rfl)) pk_nil))))))) pss_nil)
      (pss_cons (ps_if (PW.pt (pw_and (pt_cmpR op_eq (pv 3) pe_str (nomark _)) (pw_and1 (pt_cmpR op_eq (pv 2) pe_int (nomark _))))) (pss_one (ps_ret (pe_make T.mk_Try (ok_Try___init__ T) (hr.mono (by decide)) (by rfl) T.m_Try T.v_Try___init__ .nil pass0 (pa_cons (pe_ix ix_tup (pv 1) pe_int (fun _ _ => rfl)) (pa_cons (pe_ix ix_tup (pv 1) pe_int (fun _ _ => rfl)) (pa_cons (pe_ix ix_tup (pv 1) pe_int (fun _ _ => rfl)) (pa_cons (pe_ix ix_tup (pv 1) pe_int (fun _ _ => rfl)) pa_nil))))))) pss_nil)
      (pss_cons (ps_if (pt_cmpR op_eq (pv 3) pe_str (nomark _)) (pss_one (ps_ret (pe_makeK0 T.mk_Try (ok_Try___init__ T) (hr.mono (by decide)) (by rfl) T.m_Try T.kb_Try pass0 (pk_cons (pe_ix ix_tup (pv 1) pe_int (fun _ _ => rfl)) (pk_cons (pe_ix ix_tup (pv 1) pe_int (fun _ _ => rfl)) (pk_cons (pe_ix ix_tup (pv 1) pe_int (fun _ _ => rfl)) (pk_cons (pe_ix ix_tup (pv 1) pe_int (fun _ _ => rfl)) pk_nil))))))) pss_nil)
      (pss_cons (ps_if (pt_cmpR op_eq (pv 3) pe_str (nomark _)) (pss_one (ps_ret (pe_ifExp (pt_cmpR op_eq (pv 2) pe_int (nomark _)) (pe_make T.mk_Let (ok_Let___init__ T) (hr.mono (by decide)) (by rfl) T.m_Let T.v_Let___init__ .nil pass0 (pa_cons (pe_ix ix_tup (pv 1) pe_int (fun _ _ => rfl)) (pa_cons (pe_ix ix_tup (pv 1) pe_int (fun _ _ => rfl)) pa_nil))) (pe_makeK0 T.mk_Let (ok_Let___init__ T) (hr.mono (by decide)) (by rfl) T.m_Let T.kb_Let pass0 (pk_cons (pe_ix ix_tup (pv 1) pe_int (fun _ _ => rfl)) (pk_cons (pe_ix ix_tup (pv 1) pe_int (fun _ _ => rfl)) pk_nil)))))) pss_nil)
      (pss_cons (ps_if (pt_cmpR op_eq (pv 3) pe_str (nomark _)) (pss_one (ps_ret (pe_ifExp (pt_cmpR op_eq (pv 2) pe_int (nomark _)) (pe_make T.mk_Return (ok_Return___init__ T) (hr.mono (by decide)) (by rfl) T.m_Return T.v_Return___init__ .nil pass0 (pa_cons (pe_ix ix_tup (pv 1) pe_int (fun _ _ => rfl)) pa_nil)) (pe_makeK0 T.mk_Return (ok_Return___init__ T) (hr.mono (by decide)) (by rfl) T.m_Return T.kb_Return pass0 (pk_cons (pe_ix ix_tup (pv 1) pe_int (fun _ _ => rfl)) pk_nil))))) pss_nil)
      (pss_one (ps_ret (pe_ifExp (pt_cmpR op_eq (pv 3) pe_str (nomark _)) (pe_make0 T.mk_Leave (ok_Leave___init__ T) (hr.mono (by decide)) (by rfl) T.m_Leave T.v_Leave___init__ .nil pass0) pe_never))))))))))), ?_⟩
    refine ⟨_, rfl, a, _, rfl, src, by decide, by decide, fun d H2 d0 d1 src2 kb2 => ?_⟩
    have hp2 := kb2 _ _ npa hp
    have hq : SqT K H2 p (xs.map V.str) := SqT.of hp2
    have free : ∀ x, H2 x = none → H x = none := by
      intro x hx
      cases e : H x with
      | none => rfl
      | some o =>
        have n : x ≠ a := src2.fresh hx
        rw [kb2 _ _ n e] at hx
        cases hx
    have d2 : d = 0 ∨ d = 1 := by omega
    cases one with
    | @look c i hc hi =>
      refine ⟨_, rfl, p, _, _, _, rfl, rfl, hq, atI_nat (j := 0) rfl, _, _, rfl, ?_⟩
      refine ⟨_, rfl, rfl, _, rfl, ?_⟩
      refine ⟨_, rfl, rfl, _, rfl, ?_⟩
      rcases d2 with rfl | rfl
      · refine ⟨_, rfl, p, _, _, _, rfl, rfl, hq, atI_nat (j := 1) rfl, _, rfl, p, _, _, _, rfl, rfl, hq, atI_nat (j := 2) rfl, fun x dx nx ndx nex => ⟨x, dx, c, i, rfl, upd_same, hc, hi, fun H' st kb => ⟨rfl, ?_⟩⟩⟩
        have nxa : x ≠ a := src2.fresh nx
        obtain ⟨f1, f2⟩ := made_fin src2 kb2 nx ndx nex kb nxa
        exact q x H' (free x nx) st f1 f2
      · refine ⟨_, rfl, p, _, _, _, rfl, rfl, hq, atI_nat (j := 2) rfl, _, rfl, p, _, _, _, rfl, rfl, hq, atI_nat (j := 1) rfl, rfl, rfl, fun x dx nx ndx nex => ⟨x, dx, c, i, rfl, upd_same, hc, hi, fun H' st kb => ⟨rfl, ?_⟩⟩⟩
        have nxa : x ≠ a := src2.fresh nx
        obtain ⟨f1, f2⟩ := made_fin src2 kb2 nx ndx nex kb nxa
        exact q x H' (free x nx) st f1 f2
    | @put c o hc ho =>
      refine ⟨_, rfl, p, _, _, _, rfl, rfl, hq, atI_nat (j := 0) rfl, _, _, rfl, ?_⟩
      refine ⟨_, rfl, rfl, _, rfl, ?_⟩
      refine ⟨_, rfl, rfl, _, rfl, ?_⟩
      refine ⟨_, rfl, rfl, _, rfl, ?_⟩
      rcases d2 with rfl | rfl
      · refine ⟨_, rfl, p, _, _, _, rfl, rfl, hq, atI_nat (j := 1) rfl, _, rfl, p, _, _, _, rfl, rfl, hq, atI_nat (j := 2) rfl, fun x dx nx ndx nex => ⟨x, dx, c, o, rfl, upd_same, hc, ho, fun H' st kb => ⟨rfl, ?_⟩⟩⟩
        have nxa : x ≠ a := src2.fresh nx
        obtain ⟨f1, f2⟩ := made_fin src2 kb2 nx ndx nex kb nxa
        exact q x H' (free x nx) st f1 f2
      · refine ⟨_, rfl, p, _, _, _, rfl, rfl, hq, atI_nat (j := 2) rfl, _, rfl, p, _, _, _, rfl, rfl, hq, atI_nat (j := 1) rfl, rfl, rfl, fun x dx nx ndx nex => ⟨x, dx, c, o, rfl, upd_same, hc, ho, fun H' st kb => ⟨rfl, ?_⟩⟩⟩
        have nxa : x ≠ a := src2.fresh nx
        obtain ⟨f1, f2⟩ := made_fin src2 kb2 nx ndx nex kb nxa
        exact q x H' (free x nx) st f1 f2
    | @swap c o i hc ho hi =>
      refine ⟨_, rfl, p, _, _, _, rfl, rfl, hq, atI_nat (j := 0) rfl, _, _, rfl, ?_⟩
      refine ⟨_, rfl, rfl, _, rfl, ?_⟩
      refine ⟨_, rfl, rfl, _, rfl, ?_⟩
      refine ⟨_, rfl, rfl, _, rfl, ?_⟩
      refine ⟨_, rfl, rfl, _, rfl, ?_⟩
      rcases d2 with rfl | rfl
      · refine ⟨_, rfl, p, _, _, _, rfl, rfl, hq, atI_nat (j := 1) rfl, _, rfl, p, _, _, _, rfl, rfl, hq, atI_nat (j := 2) rfl, _, rfl, p, _, _, _, rfl, rfl, hq, atI_nat (j := 3) rfl, fun x dx nx ndx nex => ⟨x, dx, c, o, i, rfl, upd_same, hc, ho, hi, fun H' st kb => ⟨rfl, ?_⟩⟩⟩
        have nxa : x ≠ a := src2.fresh nx
        obtain ⟨f1, f2⟩ := made_fin src2 kb2 nx ndx nex kb nxa
        exact q x H' (free x nx) st f1 f2
      · refine ⟨_, rfl, p, _, _, _, rfl, rfl, hq, atI_nat (j := 3) rfl, _, rfl, p, _, _, _, rfl, rfl, hq, atI_nat (j := 1) rfl, _, rfl, p, _, _, _, rfl, rfl, hq, atI_nat (j := 2) rfl, rfl, rfl, fun x dx nx ndx nex => ⟨x, dx, c, o, i, rfl, upd_same, hc, ho, hi, fun H' st kb => ⟨rfl, ?_⟩⟩⟩
        have nxa : x ≠ a := src2.fresh nx
        obtain ⟨f1, f2⟩ := made_fin src2 kb2 nx ndx nex kb nxa
        exact q x H' (free x nx) st f1 f2
    | @try_ c o n i hc ho hn hi =>
      refine ⟨_, rfl, p, _, _, _, rfl, rfl, hq, atI_nat (j := 0) rfl, _, _, rfl, ?_⟩
      refine ⟨_, rfl, rfl, _, rfl, ?_⟩
      refine ⟨_, rfl, rfl, _, rfl, ?_⟩
      refine ⟨_, rfl, rfl, _, rfl, ?_⟩
      refine ⟨_, rfl, rfl, _, rfl, ?_⟩
      refine ⟨_, rfl, rfl, _, rfl, ?_⟩
      rcases d2 with rfl | rfl
      · refine ⟨_, rfl, p, _, _, _, rfl, rfl, hq, atI_nat (j := 1) rfl, _, rfl, p, _, _, _, rfl, rfl, hq, atI_nat (j := 2) rfl, _, rfl, p, _, _, _, rfl, rfl, hq, atI_nat (j := 3) rfl, _, rfl, p, _, _, _, rfl, rfl, hq, atI_nat (j := 4) rfl, fun x dx nx ndx nex => ⟨x, dx, c, o, n, i, rfl, upd_same, hc, ho, hn, hi, fun H' st kb => ⟨rfl, ?_⟩⟩⟩
        have nxa : x ≠ a := src2.fresh nx
        obtain ⟨f1, f2⟩ := made_fin src2 kb2 nx ndx nex kb nxa
        exact q x H' (free x nx) st f1 f2
      · refine ⟨_, rfl, rfl, _, rfl, ?_⟩
        refine ⟨_, rfl, p, _, _, _, rfl, rfl, hq, atI_nat (j := 4) rfl, _, rfl, p, _, _, _, rfl, rfl, hq, atI_nat (j := 3) rfl, _, rfl, p, _, _, _, rfl, rfl, hq, atI_nat (j := 2) rfl, _, rfl, p, _, _, _, rfl, rfl, hq, atI_nat (j := 1) rfl, rfl, rfl, fun x dx nx ndx nex => ⟨x, dx, c, o, n, i, rfl, upd_same, hc, ho, hn, hi, fun H' st kb => ⟨rfl, ?_⟩⟩⟩
        have nxa : x ≠ a := src2.fresh nx
        obtain ⟨f1, f2⟩ := made_fin src2 kb2 nx ndx nex kb nxa
        exact q x H' (free x nx) st f1 f2
    | @let_ i o hi ho =>
      refine ⟨_, rfl, p, _, _, _, rfl, rfl, hq, atI_nat (j := 0) rfl, _, _, rfl, ?_⟩
      refine ⟨_, rfl, rfl, _, rfl, ?_⟩
      refine ⟨_, rfl, rfl, _, rfl, ?_⟩
      refine ⟨_, rfl, rfl, _, rfl, ?_⟩
      refine ⟨_, rfl, rfl, _, rfl, ?_⟩
      refine ⟨_, rfl, rfl, _, rfl, ?_⟩
      refine ⟨_, rfl, rfl, _, rfl, ?_⟩
      refine ⟨_, rfl, rfl, _, rfl, ?_⟩
      rcases d2 with rfl | rfl
      · refine ⟨_, rfl, p, _, _, _, rfl, rfl, hq, atI_nat (j := 1) rfl, _, rfl, p, _, _, _, rfl, rfl, hq, atI_nat (j := 2) rfl, fun x dx nx ndx nex => ⟨x, dx, i, o, rfl, upd_same, hi, ho, fun H' st kb => ⟨rfl, ?_⟩⟩⟩
        have nxa : x ≠ a := src2.fresh nx
        obtain ⟨f1, f2⟩ := made_fin src2 kb2 nx ndx nex kb nxa
        exact q x H' (free x nx) st f1 f2
      · refine ⟨_, rfl, p, _, _, _, rfl, rfl, hq, atI_nat (j := 2) rfl, _, rfl, p, _, _, _, rfl, rfl, hq, atI_nat (j := 1) rfl, rfl, rfl, fun x dx nx ndx nex => ⟨x, dx, i, o, rfl, upd_same, hi, ho, fun H' st kb => ⟨rfl, ?_⟩⟩⟩
        have nxa : x ≠ a := src2.fresh nx
        obtain ⟨f1, f2⟩ := made_fin src2 kb2 nx ndx nex kb nxa
        exact q x H' (free x nx) st f1 f2
    | leave =>
      refine ⟨_, rfl, p, _, _, _, rfl, rfl, hq, atI_nat (j := 0) rfl, _, _, rfl, ?_⟩
      refine ⟨_, rfl, rfl, _, rfl, ?_⟩
      refine ⟨_, rfl, rfl, _, rfl, ?_⟩
      refine ⟨_, rfl, rfl, _, rfl, ?_⟩
      refine ⟨_, rfl, rfl, _, rfl, ?_⟩
      refine ⟨_, rfl, rfl, _, rfl, ?_⟩
      refine ⟨_, rfl, rfl, _, rfl, ?_⟩
      refine ⟨_, rfl, rfl, _, rfl, ?_⟩
      refine ⟨_, rfl, rfl, _, rfl, ?_⟩
      refine fun x dx nx ndx nex => ⟨x, dx, rfl, upd_same, fun H' st kb => ⟨rfl, ?_⟩⟩
      have nxa : x ≠ a := src2.fresh nx
      obtain ⟨f1, f2⟩ := made_fin src2 kb2 nx ndx nex kb nxa
      exact q x H' (free x nx) st f1 f2
    | @ret o ho =>
      refine ⟨_, rfl, p, _, _, _, rfl, rfl, hq, atI_nat (j := 0) rfl, _, _, rfl, ?_⟩
      refine ⟨_, rfl, rfl, _, rfl, ?_⟩
      refine ⟨_, rfl, rfl, _, rfl, ?_⟩
      refine ⟨_, rfl, rfl, _, rfl, ?_⟩
      refine ⟨_, rfl, rfl, _, rfl, ?_⟩
      refine ⟨_, rfl, rfl, _, rfl, ?_⟩
      refine ⟨_, rfl, rfl, _, rfl, ?_⟩
      refine ⟨_, rfl, rfl, _, rfl, ?_⟩
      refine ⟨_, rfl, rfl, _, rfl, ?_⟩
      rcases d2 with rfl | rfl
      · refine ⟨_, rfl, p, _, _, _, rfl, rfl, hq, atI_nat (j := 1) rfl, fun x dx nx ndx nex => ⟨x, dx, o, rfl, upd_same, ho, fun H' st kb => ⟨rfl, ?_⟩⟩⟩
        have nxa : x ≠ a := src2.fresh nx
        obtain ⟨f1, f2⟩ := made_fin src2 kb2 nx ndx nex kb nxa
        exact q x H' (free x nx) st f1 f2
      · refine ⟨_, rfl, p, _, _, _, rfl, rfl, hq, atI_nat (j := 1) rfl, rfl, rfl, fun x dx nx ndx nex => ⟨x, dx, o, rfl, upd_same, ho, fun H' st kb => ⟨rfl, ?_⟩⟩⟩
        have nxa : x ≠ a := src2.fresh nx
        obtain ⟨f1, f2⟩ := made_fin src2 kb2 nx ndx nex kb nxa
        exact q x H' (free x nx) st f1 f2
def spOperand : Sp := fun vs H Q _ => ∃ (a b : Addr) (zs : List Str), vs = [.ref a, .ref b] ∧ Src H a ∧ H b = some (.lst (zs.map V.str)) ∧ zs.length ≤ 10 ∧ (∀ z ∈ zs, NameT z) ∧ ∀ (z : Str) (H' : Hp), OperT z → Src H' a → KeepBut a H H' → Q (.str z) H'
theorem oper_fixed : ∀ z ∈ (["nothing", "yes"] : List Str), OperT z := by
  intro z hz
  rcases List.mem_cons.mp hz with rfl | hz
  · exact ⟨by decide +kernel, aln_by (by decide +kernel), by decide⟩
  · rw [List.mem_singleton.mp hz]
    exact ⟨by decide +kernel, aln_by (by decide +kernel), by decide⟩
theorem ok_law_operand (T : Txt K mg A) : FnOk P w K mg base CX0 2 A.a_law_operand A.d_law_operand ["_law_source_here", "_law_names"] spOperand := by
  have nd := sc_law_operand.nd
  refine T.f_law_operand.ok sc_law_operand (fun vs H Q E h => ?_) (fun cdv A' outer s H vs Q E hr h => ?_)
  · obtain ⟨a, b, zs, rfl, _⟩ := h
    rfl
  · obtain ⟨a, b, zs, rfl, src, hb, lz, nz, q⟩ := h
    refine ⟨_, (pss_cons (ps_set (i := 2) nd rfl (Or.inl rfl) (pe_op op_cat (pv 1) (pe_lst (pa_cons pe_str (pa_cons pe_str pa_nil)))))
      (pss_one (ps_ret (pe_ix ix_list (pv 2) (pe_call (ok_law_take T) (hr.mono (by decide)) (by rfl) T.m_law_take T.k_law_take T.v_law_take .nil pass0 (pa_cons (pv 0) (pa_cons (pe_callB call_len_seq (by rfl) T.b_len (by decide +kernel) (pa_cons (pv 2) pa_nil)) pa_nil))) (fun _ _ => rfl))))), ?_⟩
    refine ⟨_, rfl, (by show 2 ≤ sizeLine; decide), fun p1 n1 => ?_⟩
    have s1 := same_new (o := .lst [.str "nothing", .str "yes"]) n1
    refine ⟨b, p1, _, _, rfl, rfl, s1 _ _ hb, upd_same, ?_, fun p2 n2 => ?_⟩
    · rw [List.length_map]
      exact len5000 (by show zs.length + 2 ≤ 5000; omega)
    have s2 := s1.trans (same_new (o := .lst (zs.map V.str ++ [.str "nothing", .str "yes"])) n2)
    have src2 := src.same s2
    have n2a : p2 ≠ a := (src.same s1).fresh n2
    have len2 : (zs.map V.str ++ [V.str "nothing", V.str "yes"]).length = zs.length + 2 := by simp
    refine ⟨_, rfl, _, rfl, _, rfl, p2, _, rfl, Or.inl (SqL.of upd_same), a, _, rfl, src2, ?_, ?_, fun d H3 d0 d1 src3 kb3 => ?_⟩
    · rw [len2]
      omega
    · rw [len2]
      omega
    obtain ⟨y, hy, ym⟩ := at_in (l := zs.map V.str ++ [V.str "nothing", V.str "yes"]) d0 d1
    obtain ⟨z, rfl, oz⟩ : ∃ z, y = .str z ∧ OperT z := by
      rcases List.mem_append.mp ym with ym | ym
      · obtain ⟨z, hz, rfl⟩ := List.mem_map.mp ym
        exact ⟨z, rfl, (nz z hz).oper⟩
      · obtain ⟨z, hz, rfl⟩ := List.mem_map.mp (show y ∈ (["nothing", "yes"] : List Str).map V.str from ym)
        exact ⟨z, rfl, oper_fixed z hz⟩
    refine ⟨p2, _, d, _, rfl, rfl, SqL.of (kb3 _ _ n2a upd_same), hy, ?_⟩
    exact q z H3 oz src3 ((KeepBut.of_same s2).trans kb3)
end
end K03
set_option Elab.async false
set_option linter.all false
set_option maxRecDepth 100000
set_option maxHeartbeats 4000000
namespace K03
open PySem PySem.Spec PyProof.Rows L2 Mo
structure Tre where
  k : Nat
  xs : List Str
  line : Str
def TreeAt (H : Hp) (t : Addr × Tre) : Prop := H t.1 = some (.tup (t.2.xs.map V.str)) ∧ One t.2.k t.2.xs t.2.line
def TreesAt (H : Hp) (ts : List (Addr × Tre)) : Prop := ∀ t ∈ ts, TreeAt H t
theorem TreesAt.mv {H H' : Hp} {ts : List (Addr × Tre)} (h : TreesAt H ts) (k : KpT H H') : TreesAt H' ts := fun t ht => ⟨k.t _ _ (h t ht).1, (h t ht).2⟩
def tRefs (ts : List (Addr × Tre)) : List V := ts.map fun t => V.ref t.1
section
variable {w : World} {K : PySem.W.Frag} {mg : Str → Option Value} {base : Heap} {A : Ads}
def spTrees : Sp := fun vs H Q _ => ∃ (a b : Addr) (zs : List Str), vs = [.ref a, .ref b] ∧ Src H a ∧ H b = some (.lst (zs.map V.str)) ∧ 1 ≤ zs.length ∧ zs.length ≤ 10 ∧ (∀ z ∈ zs, NameT z) ∧
  ∀ (l : Addr) (ts : List (Addr × Tre)) (H' : Hp), H l = none → H' l = some (.lst (tRefs ts)) → ts.length = 7 → (∀ (i : Nat) (t : Addr × Tre), ts[i]? = some t → t.2.k = i) → TreesAt H' ts → Src H' a → KeepBut a H H' → Q (.ref l) H'
theorem eight_of {ys : List Str} (h : ys.length = 8) : ∃ a b c d e f g i, ys = [a, b, c, d, e, f, g, i] := by
  match ys, h with
  | [a, b, c, d, e, f, g, i], _ => exact ⟨a, b, c, d, e, f, g, i, rfl⟩
theorem ok_law_trees (T : Txt K mg A) : FnOk P w K mg base CX0 3 A.a_law_trees A.d_law_trees ["_law_source_here", "_law_names"] spTrees := by
  have nd := sc_law_trees.nd
  refine T.f_law_trees.ok sc_law_trees (fun vs H Q E h => ?_) (fun cdv A' outer s H vs Q E hr h => ?_)
  · obtain ⟨a, b, zs, rfl, _⟩ := h
    rfl
  · obtain ⟨a, b, zs, rfl, src, hb, l1, l10, nz, q⟩ := h
    have nb : b ≠ a := src.ne_strs hb
    refine ⟨_, (pss_cons (ps_setLc (i := 2) (own := [("_law_turn", 8)]) (g := gName 8) (tt := tYes) rfl nd rfl rfl (sw_true rfl rfl rfl (by decide +kernel)) (pi_range1 (by rfl) T.b_range (pa_cons pe_int pa_nil)) (blkOk_by (N := nm_law_trees) (sc := defScope st_law_trees) (by decide +kernel)) (fun _ _ _ _ _ => (pg_name (i := 8) nd rfl (Or.inl rfl))) (fun _ _ _ _ _ => pts_nil) (fun _ _ _ _ _ => (pe_ix (show IxR _ (rIxL K) from ix_list) (pv 1) (pe_call (ok_law_take T) (hr.mono (by decide)) (by rfl) T.m_law_take T.k_law_take T.v_law_take .nil pass0 (pa_cons (pv 0) (pa_cons (pe_callB (show CallR _ _ (rLenS K) from call_len_seq) (by rfl) T.b_len (by decide +kernel) (pa_cons (pv 1) pa_nil)) pa_nil))) (fun _ _ => rfl))))
      (pss_cons (ps_par (i := 3) (j := 4) rfl nd rfl rfl (by decide) rfl rfl (pa_cons (pe_call (ok_law_operand T) (hr.mono (by decide)) (by rfl) T.m_law_operand T.k_law_operand T.v_law_operand .nil pass0 (pa_cons (pv 0) (pa_cons (pv 1) pa_nil))) (pa_cons (pe_call (ok_law_operand T) (hr.mono (by decide)) (by rfl) T.m_law_operand T.k_law_operand T.v_law_operand .nil pass0 (pa_cons (pv 0) (pa_cons (pv 1) pa_nil))) pa_nil)) (by rfl))
      (pss_cons (ps_par (i := 5) (j := 6) rfl nd rfl rfl (by decide) rfl rfl (pa_cons (pe_call (ok_law_operand T) (hr.mono (by decide)) (by rfl) T.m_law_operand T.k_law_operand T.v_law_operand .nil pass0 (pa_cons (pv 0) (pa_cons (pv 1) pa_nil))) (pa_cons (pe_call (ok_law_operand T) (hr.mono (by decide)) (by rfl) T.m_law_operand T.k_law_operand T.v_law_operand .nil pass0 (pa_cons (pv 0) (pa_cons (pv 1) pa_nil))) pa_nil)) (by rfl))
      (pss_cons (ps_set (i := 7) nd rfl (Or.inl rfl) (pe_lst (pa_cons (pe_tup (pa_cons pe_str (pa_cons (pe_ix ix_list (pv 2) pe_int (fun _ _ => rfl)) (pa_cons (pe_ix ix_list (pv 2) pe_int (fun _ _ => rfl)) pa_nil)))) (pa_cons (pe_tup (pa_cons pe_str (pa_cons (pe_ix ix_list (pv 2) pe_int (fun _ _ => rfl)) (pa_cons (pv 3) pa_nil)))) (pa_cons (pe_tup (pa_cons pe_str (pa_cons (pe_ix ix_list (pv 2) pe_int (fun _ _ => rfl)) (pa_cons (pv 4) (pa_cons (pe_ix ix_list (pv 2) pe_int (fun _ _ => rfl)) pa_nil))))) pa_nil)))))
      (pss_cons (ps_set (i := 7) nd rfl (Or.inl rfl) (pe_op op_cat (pv 7) (pe_lst (pa_cons (pe_tup (pa_cons pe_str (pa_cons (pe_ix ix_list (pv 2) pe_int (fun _ _ => rfl)) (pa_cons (pv 5) (pa_cons (pv 6) (pa_cons (pe_ix ix_list (pv 2) pe_int (fun _ _ => rfl)) pa_nil)))))) (pa_cons (pe_tup (pa_cons pe_str (pa_cons (pe_ix ix_list (pv 2) pe_int (fun _ _ => rfl)) (pa_cons (pv 3) pa_nil)))) (pa_cons (pe_tup (pa_cons pe_str pa_nil)) pa_nil))))))
      (pss_one (ps_ret (pe_op op_cat (pv 7) (pe_lst (pa_cons (pe_tup (pa_cons pe_str (pa_cons (pv 4) pa_nil))) pa_nil)))))))))), ?_⟩
    refine ⟨8, rfl, by decide, by decide, fun D hD => lc_it (walk_range (lo := 0) (n := 8)) (fun i H2 => ∃ ys : List Str, ys.length = i ∧ (∀ y ∈ ys, NameT y) ∧ Src H2 a ∧ KeepBut a H H2 ∧ H2 D = some (.lst (ys.map V.str))) ⟨[], rfl, fun _ h => (List.not_mem_nil h).elim, src.same (same_new hD), KeepBut.of_same (same_new hD), upd_same⟩ (fun _ _ _ _ => trivial) ?_ ?_⟩
    · rintro i x H1 H2 hi ⟨ys, ly, ny, src2, kb2, hd2⟩ ⟨rfl, rfl⟩
      have hb2 := kb2 _ _ nb hb
      have nD : D ≠ a := src.fresh hD
      refine ⟨rfl, _, rfl, _, rfl, _, rfl, b, _, rfl, Or.inl (SqL.of hb2), a, _, rfl, src2, by rw [List.length_map]; omega, by rw [List.length_map]; omega, fun d H3 d0 d1 src3 kb3 => ?_⟩
      obtain ⟨y, hy, ym⟩ := at_in (l := zs.map V.str) d0 d1
      obtain ⟨z, hz, rfl⟩ := List.mem_map.mp ym
      refine ⟨b, _, d, _, rfl, rfl, SqL.of (kb3 _ _ nb hb2), hy, _, kb3 _ _ nD hd2, by rw [List.length_map]; exact lt5000 (by omega), ys ++ [z], by rw [List.length_append, ly]; rfl, fun y hy => ?_, src3.upd nD, fun b o n1 e => ?_, ?_⟩
      · rcases List.mem_append.mp hy with hy | hy
        · exact ny y hy
        · rw [List.mem_singleton.mp hy]
          exact nz z hz
      · rw [upd_ne (ne_of_none e hD)]
        exact kb3 _ _ n1 (kb2 _ _ n1 e)
      · rw [upd_same, List.map_append]
        rfl
    · rintro H2 ⟨ys, ly, ny, src2, kb2, hd2⟩
      have nD : D ≠ a := src.fresh hD
      obtain ⟨y0, y1, y2, y3, y4, y5, y6, y7, rfl⟩ := eight_of ly
      have nn : ∀ y ∈ [y0, y1, y2, y3, y4, y5, y6, y7], NameT y := ny
      have hb2 := kb2 _ _ nb hb
      refine ⟨_, rfl, _, rfl, a, b, zs, rfl, src2, hb2, l10, nz, fun o1 H3 ho1 src3 kb3 => ?_⟩
      refine ⟨_, rfl, _, rfl, a, b, zs, rfl, src3, kb3 _ _ nb hb2, l10, nz, fun o2 H4 ho2 src4 kb4 => ⟨_, _, rfl, ?_⟩⟩
      have hb4 := kb4 _ _ nb (kb3 _ _ nb hb2)
      refine ⟨_, rfl, _, rfl, a, b, zs, rfl, src4, hb4, l10, nz, fun o3 H5 ho3 src5 kb5 => ?_⟩
      refine ⟨_, rfl, _, rfl, a, b, zs, rfl, src5, kb5 _ _ nb hb4, l10, nz, fun o4 H6 ho4 src6 kb6 => ⟨_, _, rfl, ?_⟩⟩
      have hD6 : H6 D = some (.lst [.str y0, .str y1, .str y2, .str y3, .str y4, .str y5, .str y6, .str y7]) := kb6 _ _ nD (kb5 _ _ nD (kb4 _ _ nD (kb3 _ _ nD hd2)))
      have kb06 : KeepBut a H H6 := (((kb2.trans kb3).trans kb4).trans kb5).trans kb6
      have h0 := nn y0 (by simp)
      have h1 := nn y1 (by simp)
      have h2 := nn y2 (by simp)
      have h3 := nn y3 (by simp)
      have h4 := nn y4 (by simp)
      have h5 := nn y5 (by simp)
      have h6 := nn y6 (by simp)
      have h7 := nn y7 (by simp)
      -- the first three
      refine ⟨_, rfl, D, _, _, _, rfl, rfl, SqL.of hD6, atI_nat (j := 0) rfl, _, rfl, D, _, _, _, rfl, rfl, SqL.of hD6, atI_nat (j := 1) rfl, (by show 3 ≤ sizeLine; decide), fun t0 n0 => ?_⟩
      have e0 := same_new (o := .tup [.str "look", .str y0, .str y1]) n0
      have s0 := e0
      refine ⟨_, rfl, D, _, _, _, rfl, rfl, SqL.of (s0 _ _ hD6), atI_nat (j := 2) rfl, _, rfl, (by show 3 ≤ sizeLine; decide), fun t1 n1 => ?_⟩
      have e1 := same_new (o := .tup [.str "put", .str y2, .str o1]) n1
      have s1 := s0.trans e1
      refine ⟨_, rfl, D, _, _, _, rfl, rfl, SqL.of (s1 _ _ hD6), atI_nat (j := 3) rfl, _, rfl, _, rfl, D, _, _, _, rfl, rfl, SqL.of (s1 _ _ hD6), atI_nat (j := 4) rfl, (by show 4 ≤ sizeLine; decide), fun t2 n2 => ?_⟩
      have e2 := same_new (o := .tup [.str "swap", .str y3, .str o2, .str y4]) n2
      have s2 := s1.trans e2
      refine ⟨(by show 3 ≤ sizeLine; decide), fun p1 m1 => ?_⟩
      have e3 := same_new (o := .lst [.ref t0, .ref t1, .ref t2]) m1
      have s3 := s2.trans e3
      -- three more
      refine ⟨_, rfl, _, rfl, D, _, _, _, rfl, rfl, SqL.of (s3 _ _ hD6), atI_nat (j := 5) rfl, _, rfl, _, rfl, _, rfl, D, _, _, _, rfl, rfl, SqL.of (s3 _ _ hD6), atI_nat (j := 6) rfl, (by show 5 ≤ sizeLine; decide), fun t3 n3 => ?_⟩
      have e4 := same_new (o := .tup [.str "try", .str y5, .str o3, .str o4, .str y6]) n3
      have s4 := s3.trans e4
      refine ⟨_, rfl, D, _, _, _, rfl, rfl, SqL.of (s4 _ _ hD6), atI_nat (j := 7) rfl, _, rfl, (by show 3 ≤ sizeLine; decide), fun t4 n4 => ?_⟩
      have e5 := same_new (o := .tup [.str "let", .str y7, .str o1]) n4
      have s5 := s4.trans e5
      refine ⟨(by show 1 ≤ sizeLine; decide), fun t5 n5 => ⟨(by show 3 ≤ sizeLine; decide), fun p2 m2 => ?_⟩⟩
      have e6 := same_new (o := .tup [.str "leave"]) n5
      have s6 := s5.trans e6
      have e7 := same_new (o := .lst [.ref t3, .ref t4, .ref t5]) m2
      have s7 := s6.trans e7
      refine ⟨p1, p2, _, _, rfl, rfl, (((e4.trans e5).trans e6).trans e7) _ _ upd_same, upd_same, (by show 3 + 3 ≤ sizeLine; decide), fun p3 m3 => ?_⟩
      have e8 := same_new (o := .lst ([.ref t0, .ref t1, .ref t2] ++ [.ref t3, .ref t4, .ref t5])) m3
      refine ⟨_, rfl, _, rfl, (by show 2 ≤ sizeLine; decide), fun t6 n6 => ⟨(by show 1 ≤ sizeLine; decide), fun p4 m4 => ?_⟩⟩
      have e9 := same_new (o := .tup [.str "return", .str o2]) n6
      have e10 := same_new (o := .lst [.ref t6]) m4
      refine ⟨p3, p4, _, _, rfl, rfl, (e9.trans e10) _ _ upd_same, upd_same, (by show 6 + 1 ≤ sizeLine; decide), fun p5 m5 => ?_⟩
      have e11 := same_new (o := .lst ([.ref t0, .ref t1, .ref t2] ++ [.ref t3, .ref t4, .ref t5] ++ [.ref t6])) m5
      have f10 := e10.trans e11
      have f9 := e9.trans f10
      have f8 := e8.trans f9
      have f7 := e7.trans f8
      have f6 := e6.trans f7
      have f5 := e5.trans f6
      have f4 := e4.trans f5
      have f3 := e3.trans f4
      have f2 := e2.trans f3
      have f1 := e1.trans f2
      have f0 := e0.trans f1
      have kbf : KeepBut a H _ := kb06.trans (KeepBut.of_same f0)
      have fr : H p5 = none := by
        cases e : H p5 with
        | none => rfl
        | some o =>
          have n5 : p5 ≠ a := (src6.same ((s7.trans e8).trans (e9.trans e10))).fresh m5
          have := ((s7.trans e8).trans (e9.trans e10)) _ _ (kb06 _ _ n5 e)
          rw [m5] at this
          cases this
      refine q p5 [(t0, ⟨0, ["look", y0, y1], "look " ++ y0 ++ " into " ++ y1⟩), (t1, ⟨1, ["put", y2, o1], "put " ++ y2 ++ " " ++ o1⟩), (t2, ⟨2, ["swap", y3, o2, y4], "swap " ++ y3 ++ " " ++ o2 ++ " into " ++ y4⟩), (t3, ⟨3, ["try", y5, o3, o4, y6], "try " ++ y5 ++ " " ++ o3 ++ " " ++ o4 ++ " into " ++ y6⟩),
        (t4, ⟨4, ["let", y7, o1], "let " ++ y7 ++ " " ++ o1⟩), (t5, ⟨5, ["leave"], "leave"⟩), (t6, ⟨6, ["return", o2], "return " ++ o2⟩)] _ fr upd_same rfl ?_ ?_ (src6.same f0) kbf
      · intro i t ht
        match i, ht with
        | 0, ht => cases ht; rfl
        | 1, ht => cases ht; rfl
        | 2, ht => cases ht; rfl
        | 3, ht => cases ht; rfl
        | 4, ht => cases ht; rfl
        | 5, ht => cases ht; rfl
        | 6, ht => cases ht; rfl
        | n + 7, ht => cases ht
      · intro t ht
        simp only [List.mem_cons, List.not_mem_nil, or_false] at ht
        rcases ht with rfl | rfl | rfl | rfl | rfl | rfl | rfl
        · exact ⟨f1 _ _ upd_same, .look h0 h1⟩
        · exact ⟨f2 _ _ upd_same, .put h2 ho1⟩
        · exact ⟨f3 _ _ upd_same, .swap h3 ho2 h4⟩
        · exact ⟨f5 _ _ upd_same, .try_ h5 ho3 ho4 h6⟩
        · exact ⟨f6 _ _ upd_same, .let_ h7 ho1⟩
        · exact ⟨f7 _ _ upd_same, .leave⟩
        · exact ⟨f10 _ _ upd_same, .ret ho2⟩
def sortsB (k : Nat) : List Bool := [k == 0, k == 1, k == 2, k == 3, k == 4, k == 5, k == 6, k == 7, k == 8, k == 9, true]
def spSorts (K : PySem.W.Frag) (A : Ads) : Sp := fun vs H Q _ => ∃ (p : Addr) (d : Sd) (bs os : List Addr), vs = [.ref p] ∧ StAt K A H p d bs os ∧ ∀ (l : Addr) (H' : Hp), Same H H' → H' l = some (.lst ((sortsB d.k).map V.bl)) → Q (.ref l) H'
theorem ok_law_sorts (T : Txt K mg A) : FnOk P w K mg base CX0 1 A.a_law_sorts A.d_law_sorts ["_law_thing"] (spSorts K A) := by
  have nd := sc_law_sorts.nd
  refine T.f_law_sorts.ok sc_law_sorts (fun vs H Q E h => ?_) (fun cdv A' outer s H vs Q E hr h => ?_)
  · obtain ⟨p, d, bs, os, rfl, _⟩ := h
    rfl
  · obtain ⟨p, d, bs, os, rfl, ⟨C, dx, fs, ps, pr, pb, po, h1, h2, h3, h4, h5, h6, h7, h8, h9, h10, h11, h12⟩, q⟩ := h
    have fc := T.fam C (List.mem_of_getElem? h1)
    have ty : ∀ H2, Same H H2 → TyX K H2 (.ref p) (.ref C) := fun H2 e => fc.ty _ _ _ _ (e _ _ h2)
    have kt : ∀ j D, A.fam[j]? = some D → PySem.W.kitOne K (.ref C) (.ref D) = some (d.k == j) := fun j D hj => (T.tab d.k j C D h1 hj).1
    refine ⟨_, (pss_cons (ps_set (i := 1) nd rfl (Or.inl rfl) (pe_lst (pa_cons (pe_callB call_isi (by rfl) T.b_isinstance (by decide +kernel) (pa_cons (pv 0) (pa_cons (pe_gR T.m_Look) pa_nil))) (pa_cons (pe_callB call_isi (by rfl) T.b_isinstance (by decide +kernel) (pa_cons (pv 0) (pa_cons (pe_gR T.m_Put) pa_nil))) (pa_cons (pe_callB call_isi (by rfl) T.b_isinstance (by decide +kernel) (pa_cons (pv 0) (pa_cons (pe_gR T.m_Swap) pa_nil))) (pa_cons (pe_callB call_isi (by rfl) T.b_isinstance (by decide +kernel) (pa_cons (pv 0) (pa_cons (pe_gR T.m_Try) pa_nil))) pa_nil))))))
      (pss_cons (ps_set (i := 1) nd rfl (Or.inl rfl) (pe_op op_cat (pv 1) (pe_lst (pa_cons (pe_callB call_isi (by rfl) T.b_isinstance (by decide +kernel) (pa_cons (pv 0) (pa_cons (pe_gR T.m_Let) pa_nil))) (pa_cons (pe_callB call_isi (by rfl) T.b_isinstance (by decide +kernel) (pa_cons (pv 0) (pa_cons (pe_gR T.m_Leave) pa_nil))) (pa_cons (pe_callB call_isi (by rfl) T.b_isinstance (by decide +kernel) (pa_cons (pv 0) (pa_cons (pe_gR T.m_Return) pa_nil))) pa_nil))))))
      (pss_cons (ps_set (i := 1) nd rfl (Or.inl rfl) (pe_op op_cat (pv 1) (pe_lst (pa_cons (pe_callB call_isi (by rfl) T.b_isinstance (by decide +kernel) (pa_cons (pv 0) (pa_cons (pe_gR T.m_If) pa_nil))) (pa_cons (pe_callB call_isi (by rfl) T.b_isinstance (by decide +kernel) (pa_cons (pv 0) (pa_cons (pe_gR T.m_Loop) pa_nil))) (pa_cons (pe_callB call_isi (by rfl) T.b_isinstance (by decide +kernel) (pa_cons (pv 0) (pa_cons (pe_gR T.m_Joined) pa_nil))) pa_nil))))))
      (pss_one (ps_ret (pe_op op_cat (pv 1) (pe_lst (pa_cons (pe_callB call_isi (by rfl) T.b_isinstance (by decide +kernel) (pa_cons (pv 0) (pa_cons (pe_gR T.m_Statement) pa_nil))) pa_nil)))))))), ?_⟩
    have r0 := Same.refl H
    refine ⟨_, rfl, _, _, _, _, _, rfl, .own _, ty _ r0, kt 0 _ rfl, _, rfl, _, _, _, _, _, rfl, .own _, ty _ r0, kt 1 _ rfl, _, rfl, _, _, _, _, _, rfl, .own _, ty _ r0, kt 2 _ rfl, _, rfl, _, _, _, _, _, rfl, .own _, ty _ r0, kt 3 _ rfl, (by show 4 ≤ sizeLine; decide), fun p1 n1 => ?_⟩
    have s1 := same_new (o := .lst [.bl (d.k == 0), .bl (d.k == 1), .bl (d.k == 2), .bl (d.k == 3)]) n1
    refine ⟨_, rfl, _, rfl, _, _, _, _, _, rfl, .own _, ty _ s1, kt 4 _ rfl, _, rfl, _, _, _, _, _, rfl, .own _, ty _ s1, kt 5 _ rfl, _, rfl, _, _, _, _, _, rfl, .own _, ty _ s1, kt 6 _ rfl, (by show 3 ≤ sizeLine; decide), fun p2 n2 => ?_⟩
    have e2 := same_new (o := .lst [.bl (d.k == 4), .bl (d.k == 5), .bl (d.k == 6)]) n2
    have s2 := s1.trans e2
    refine ⟨p1, p2, _, _, rfl, rfl, e2 _ _ upd_same, upd_same, (by show 4 + 3 ≤ sizeLine; decide), fun p3 n3 => ?_⟩
    have s3 := s2.trans (same_new (o := .lst ([.bl (d.k == 0), .bl (d.k == 1), .bl (d.k == 2), .bl (d.k == 3)] ++ [.bl (d.k == 4), .bl (d.k == 5), .bl (d.k == 6)])) n3)
    refine ⟨_, rfl, _, rfl, _, _, _, _, _, rfl, .own _, ty _ s3, kt 7 _ rfl, _, rfl, _, _, _, _, _, rfl, .own _, ty _ s3, kt 8 _ rfl, _, rfl, _, _, _, _, _, rfl, .own _, ty _ s3, kt 9 _ rfl, (by show 3 ≤ sizeLine; decide), fun p4 n4 => ?_⟩
    have e4 := same_new (o := .lst [.bl (d.k == 7), .bl (d.k == 8), .bl (d.k == 9)]) n4
    have s4 := s3.trans e4
    refine ⟨p3, p4, _, _, rfl, rfl, e4 _ _ upd_same, upd_same, (by show 7 + 3 ≤ sizeLine; decide), fun p5 n5 => ?_⟩
    have s5 := s4.trans (same_new (o := .lst ([.bl (d.k == 0), .bl (d.k == 1), .bl (d.k == 2), .bl (d.k == 3)] ++ [.bl (d.k == 4), .bl (d.k == 5), .bl (d.k == 6)] ++ [.bl (d.k == 7), .bl (d.k == 8), .bl (d.k == 9)])) n5)
    refine ⟨_, rfl, _, rfl, _, _, _, _, _, rfl, .own _, ty _ s5, (T.sub C (List.mem_of_getElem? h1)).2, (by show 1 ≤ sizeLine; decide), fun p6 n6 => ?_⟩
    have e6 := same_new (o := .lst [.bl true]) n6
    refine ⟨p5, p6, _, _, rfl, rfl, e6 _ _ upd_same, upd_same, (by show 10 + 1 ≤ sizeLine; decide), fun p7 n7 => ?_⟩
    exact q p7 _ ((s5.trans e6).trans (same_new n7)) upd_same
end
end K03
set_option Elab.async false
set_option linter.all false
set_option maxRecDepth 100000
set_option maxHeartbeats 4000000
namespace K03
open PySem PySem.Spec PyProof.Rows L2 Mo
section
variable {w : World} {K : PySem.W.Frag} {mg : Str → Option Value} {base : Heap} {A : Ads}
theorem word_con (T : Txt K mg A) {k : Nat} {xs : List Str} {line : Str} (one : One k xs line) {C : Addr} (h : A.fam[k]? = some C) : ∃ u, Con K C "WORD" (.str (xs.headD "")) u := by
  cases one
  · cases (show some A.c_Look = some C from h); exact T.co_Look
  · cases (show some A.c_Put = some C from h); exact T.co_Put
  · cases (show some A.c_Swap = some C from h); exact T.co_Swap
  · cases (show some A.c_Try = some C from h); exact T.co_Try
  · cases (show some A.c_Let = some C from h); exact T.co_Let
  · cases (show some A.c_Leave = some C from h); exact T.co_Leave
  · cases (show some A.c_Return = some C from h); exact T.co_Return
theorem One.k6 {k : Nat} {xs : List Str} {line : Str} (one : One k xs line) : k < 7 := by cases one <;> decide
theorem One.hd {k : Nat} {xs : List Str} {line : Str} (one : One k xs line) : xs[0]? = some (xs.headD "") ∧ AlnT (xs.headD "") ∧ (xs.headD "").length ≤ 8 := by
  cases one <;> refine ⟨rfl, ?_, ?_⟩ <;> dsimp only [List.headD] <;> first | exact aln_by (by decide +kernel) | decide
/-- the data that are told -/
def isD (line word : Str) : PyData := .list [.str line, .str ("Statement(" ++ line ++ ")"), .str word, .int 1, .int 1]
theorem isD_pl {line word : Str} (h1 : AlnT line) (h2 : AlnT word) : Pl (isD line word) := by
  unfold isD
  simp only [Pl, PlAll]
  exact ⟨h1, aln_app (aln_app (aln_by (by decide +kernel)) h1) (aln_by (by decide +kernel)), h2, by decide +kernel, by decide +kernel, trivial⟩
theorem isD_ok {line word : Str} (h1 : AlnT line) (h2 : AlnT word) (l1 : line.length ≤ 200) (l2 : word.length ≤ 8) : (isD line word).showable = true ∧ (isD line word).hasDict = false ∧ (isD line word).depth ≤ 60 ∧ (isD line word).shown.length ≤ sizeLine := by
  have pl := isD_pl h1 h2
  refine ⟨(show_plain pl).1, (show_plain pl).2, ?_, ?_⟩
  · show max 0 (max 0 (max 0 (max 0 (max 0 0)))) + 1 ≤ 60
    decide
  · refine len5000 (Nat.le_trans (shown_len pl) ?_)
    unfold isD
    have e1 : ("Statement(" : Str).length = 10 := rfl
    have e2 : (")" : Str).length = 1 := rfl
    simp only [wt_lst, wtAll_cons, wt, wtAll, app_length, e1, e2]
    omega
theorem sorts_in : ∀ k < 7, (List.range 11).map (fun i => inV (.int (0 + (i : Nat) : Int)) [.int ((k : Nat) : Int), .int 10]) = sortsB k := by decide +kernel
theorem shaped_bls (l : List Bool) : SeqAt.shaped (.list (l.map PyData.bool)) = true := by
  have h : PyData.canLayAll0 (l.map PyData.bool) = true ∧ PyData.depthAll (l.map PyData.bool) = 0 := by
    induction l with
    | nil => exact ⟨rfl, rfl⟩
    | cons b l ih => exact ⟨ih.1, by show max 0 (PyData.depthAll (l.map PyData.bool)) = 0; rw [ih.2]; rfl⟩
  unfold SeqAt.shaped
  rw [Bool.and_eq_true]
  refine ⟨h.1, decide_eq_true ?_⟩
  show PyData.depthAll (l.map PyData.bool) + 1 ≤ 64
  omega
def spIs (K : PySem.W.Frag) (A : Ads) : Sp := fun vs H Q _ => ∃ (p pt : Addr) (k : Nat) (xs : List Str) (line : Str), vs = [.ref p, .ref pt, .int (k : Nat)] ∧ StAt K A H p (oneD k line) [] [] ∧ H pt = some (.tup (xs.map V.str)) ∧ One k xs line ∧ ∀ H', Same H H' → Q (.bl true) H'
theorem ok_law_is (T : Txt K mg A) : FnG P w K mg base CX0 6 A.a_law_is A.d_law_is ["_law_thing", "_law_tree", "_law_k"] (spIs K A) := by
  have nd := sc_law_is.nd
  refine Fun_okG T.f_law_is sc_law_is (fun vs H Q E h => ?_) (fun cdv A' outer s H vs Q E hr hG h => ?_)
  · obtain ⟨p, pt, k, xs, line, rfl, _⟩ := h
    rfl
  · obtain ⟨p, pt, k, xs, line, rfl, st, ht, one, q⟩ := h
    obtain ⟨l200, la⟩ := one.line_ok
    have k6 := one.k6
    obtain ⟨hd1, hd2, hd3⟩ := one.hd
    refine ⟨_, (pss_cons (ps_set (i := 3) nd rfl (Or.inl rfl) (pe_call (ok_law_head T) (hr.mono (by decide)) (by rfl) T.m_law_head T.k_law_head T.v_law_head .nil pass0 (pa_cons (pv 1) pa_nil)))
      (pss_cons (ps_set (i := 4) nd rfl (Or.inl rfl) (pe_lst (pa_cons (pe_callTy (call_strF (ok_Statement___str__ T) (hr.mono (by decide)) T.sp_Statement___str__ T.v_Statement___str__ pass0) (by rfl) T.b_str (by decide +kernel) (pa_cons (pv 0) pa_nil)) (pa_cons (pe_callB (call_reprF (ok_Statement___repr__ T) (hr.mono (by decide)) T.sp_Statement___repr__ T.v_Statement___repr__ pass0) (by rfl) T.b_repr (by decide +kernel) (pa_cons (pv 0) pa_nil)) (pa_cons (pe_con (pv 0) rfl) (pa_cons (pe_propF (pv 0) T.pr_Statement_amount (ok_Statement_amount T) (hr.mono (by decide)) T.v_Statement_amount pass0) (pa_cons (pe_propF (pv 0) T.pr_Statement_level (ok_Statement_level T) (hr.mono (by decide)) T.v_Statement_level pass0) pa_nil)))))))
      (pss_cons (ps_if (pt_cmpR op_ne (pe_callB (call_repr hr hG) (by rfl) T.b_repr (by decide +kernel) (pa_cons (pv 4) pa_nil)) (pe_callB (call_repr hr hG) (by rfl) T.b_repr (by decide +kernel) (pa_cons (pe_lst (pa_cons (pv 3) (pa_cons (pe_op op_add_str (pe_op op_add_str pe_str (pv 3)) pe_str) (pa_cons (pe_ix ix_tup (pv 1) pe_int (fun _ _ => rfl)) (pa_cons pe_int (pa_cons pe_int pa_nil)))))) pa_nil)) (nomark _)) (pss_one (ps_ret pe_bl)) pss_nil)
      (pss_cons (ps_if (pt_cmpR (op_neD hr.units) (pe_call (ok_law_sorts T) (hr.mono (by decide)) (by rfl) T.m_law_sorts T.k_law_sorts T.v_law_sorts .nil pass0 (pa_cons (pv 0) pa_nil)) (pe_lc (own := [("_law_turn", 6)]) (g := gName 6) (tt := tYes) rfl nd (pi_range1 (by rfl) T.b_range (pa_cons pe_int pa_nil)) (blkOk_by (N := nm_law_is) (sc := defScope st_law_is) (by decide +kernel)) (fun _ _ _ _ _ => (pg_name (i := 6) nd rfl (Or.inl rfl))) (fun _ _ _ _ _ => pts_nil) (fun _ _ _ _ _ => (pe_cmpR (show OpR _ _ (rIn K false) from op_in_seq) (pv 6) (pe_lst (pa_cons (pv 2) (pa_cons pe_int pa_nil))) (by rfl)))) (nomark _)) (pss_one (ps_ret pe_bl)) pss_nil)
      (pss_cons (ps_for PassesOwn.never rfl (pi_list (pe_lst (pa_cons (pv 3) (pa_cons pe_non (pa_cons (pv 1) (pa_cons pe_int (pa_cons (pe_lst (pa_cons (pv 3) pa_nil)) pa_nil))))))) (pg_name (i := 5) nd rfl (Or.inl rfl)) (pss_one (ps_if (PW.pt (pw_or (pt_cmpR (op_eqF (ok_Statement___eq__ T) (hr.mono (by decide)) T.sp_Statement___eq__ T.v_Statement___eq__ pass0) (pv 0) (pv 5) (nomark _)) (pw_or1 (pt_not (pt_cmpR (op_neF (ok_Statement___eq__ T) (hr.mono (by decide)) (fun C h => ⟨T.sp_Statement___eq__ C h, (T.fam C h).ne, (T.fam C h).mo⟩) T.v_Statement___eq__ pass0) (pv 0) (pv 5) (nomark _)))))) (pss_one (ps_ret pe_bl)) pss_nil)))
      (pss_one (ps_ret pe_bl))))))), ?_⟩
    refine ⟨_, rfl, pt, k, xs, line, rfl, ht, one, fun H1 s1 => ?_⟩
    have st1 := st.mv (KpT.of_same s1)
    have st1' := st1
    obtain ⟨C, dx, fs, ps, pr, pb, po, h1, h2, h3, h4, h5, h6, h7, h8, h9, h10, h11, h12⟩ := st1
    have mem := List.mem_of_getElem? h1
    have fc := T.fam C mem
    obtain ⟨u, con⟩ := word_con T one h1
    refine ⟨_, rfl, p, C, dx, fs, rfl, mem, h2, p, _, _, _, rfl, st1', _, rfl, _, rfl, p, C, dx, fs, rfl, mem, h2, p, _, _, _, rfl, st1', _, rfl, _, rfl, p, C, dx, fs, _, u, rfl, h2, fc.cl, con, h11,
      _, rfl, p, C, dx, fs, rfl, mem, h2, p, _, _, _, rfl, st1', _, rfl, p, C, dx, fs, rfl, mem, h2, p, _, _, _, rfl, st1', (by show 5 ≤ sizeLine; decide), fun l1 n1 => ?_⟩
    have e2 := same_new (o := .lst [.str (Txt.join "\n" [line]), .str ("Statement(" ++ line ++ ")"), .str (xs.headD ""), .int 1, .int 1]) n1
    have s2 := s1.trans e2
    have le1 : ("Statement(" : Str).length = 10 := rfl
    have le2 : (")" : Str).length = 1 := rfl
    have ok := isD_ok la hd2 l200 hd3
    refine ⟨_, rfl, l1, isD line (xs.headD ""), rfl, .lst (SqL.of upd_same) ?_, ok.1, ok.2.1, ok.2.2.1, ok.2.2.2, ?_⟩
    · show DpAll K _ [V.str (Txt.join "\n" [line]), V.str ("Statement(" ++ line ++ ")"), V.str (xs.headD ""), V.int 1, V.int 1] _
      rw [join1]
      exact .cons (.str _) (.cons (.str _) (.cons (.str _) (.cons (.int _) (.cons (.int _) .nil))))
    refine ⟨_, rfl, _, rfl, _, _, rfl, rfl, len5000 (by omega), _, _, rfl, rfl, len5000 (by rw [app_length]; omega), _, rfl, pt, _, _, .str (xs.headD ""), rfl, rfl, SqT.of (s2 _ _ ht), atI_nat (j := 0) (by rw [List.getElem?_map, hd1]; rfl), (by show 5 ≤ sizeLine; decide), fun l2 n2 => ?_⟩
    have e3 := same_new (o := .lst [.str line, .str ("Statement(" ++ line ++ ")"), .str (xs.headD ""), .int 1, .int 1]) n2
    have s3 := s2.trans e3
    refine ⟨l2, isD line (xs.headD ""), rfl, .lst (SqL.of upd_same) (.cons (.str _) (.cons (.str _) (.cons (.str _) (.cons (.int _) (.cons (.int _) .nil))))), ok.1, ok.2.1, ok.2.2.1, ok.2.2.2, rfl, _, rfl, ?_⟩
    refine iteNS rfl ?_
    -- the kinds
    have st3 := st.mv (KpT.of_same s3)
    refine ⟨_, rfl, p, _, _, _, rfl, st3, fun l4 H4 s4 h4' => ?_⟩
    have s04 := s3.trans s4
    refine ⟨11, rfl, by decide, by decide, fun D hD => lc_it (walk_range (lo := 0) (n := 11)) (fun i H5 => Same H4 H5 ∧ H5 D = some (.lst (((List.range i).map (fun i => inV (.int (0 + (i : Nat) : Int)) [.int ((k : Nat) : Int), .int 10])).map V.bl))) ⟨same_new hD, upd_same⟩ (fun _ _ _ _ => trivial) ?_ ?_⟩
    · rintro i x H5 H6 hi ⟨s5, hd5⟩ ⟨rfl, rfl⟩
      refine ⟨rfl, _, rfl, _, rfl, (by show 2 ≤ sizeLine; decide), fun q1 m1 => ⟨q1, _, rfl, Or.inl (SqL.of upd_same), rfl, rfl, _, same_new m1 _ _ hd5, ?_, ?_, ?_⟩⟩
      · rw [List.length_map, List.length_map, List.length_range]
        exact lt5000 (by omega)
      · intro b o e
        rw [upd_ne (ne_of_none e hD)]
        exact same_new m1 _ _ (s5 _ _ e)
      · rw [upd_same, List.range_succ, List.map_append, List.map_append]
        rfl
    · rintro H5 ⟨s5, hd5⟩
      rw [sorts_in k k6] at hd5
      have s05 := s04.trans s5
      refine ⟨.list ((sortsB k).map PyData.bool), .list ((sortsB k).map PyData.bool), .lst (SqL.of (s5 _ _ h4')) (dp_bls _), .lst (SqL.of hd5) (dp_bls _), shaped_bls _, shaped_bls _, _, rfl, ?_⟩
      rw [SeqAt.eqv_refl _ (SeqAt.canLay_of_shaped (shaped_bls _))]
      -- things that are not equal to it
      refine ⟨_, rfl, _, rfl, _, rfl, (by show 1 ≤ sizeLine; decide), fun l5 n5 => ⟨(by show 5 ≤ sizeLine; decide), fun l6 n6 => ?_⟩⟩
      have e6 := same_new (o := .lst [.str line]) n5
      have e7 := same_new (o := .lst [.str line, .non, .ref pt, .int 0, .ref l5]) n6
      have s07 := (s05.trans e6).trans e7
      obtain ⟨H7, eH⟩ : ∃ H7, H7 = upd (upd H5 l5 (.lst [.str line])) l6 (.lst [.str line, .non, .ref pt, .int 0, .ref l5]) := ⟨_, rfl⟩
      rw [← eH] at s07 ⊢
      have hl6 : H7 l6 = some (.lst [.str line, .non, .ref pt, .int 0, .ref l5]) := by rw [eH]; exact upd_same
      have hl5 : H7 l5 = some (.lst [.str line]) := by rw [eH]; exact e7 _ _ upd_same
      have st7 := st.mv (KpT.of_same s07)
      have st7' := st7
      obtain ⟨C', dx', fs', ps', pr', pb', po', g1, g2, g3, g4, g5, g6, g7, g8, g9, g10, g11, g12⟩ := st7
      have mem' := List.mem_of_getElem? g1
      have fc' := T.fam C' mem'
      have ths : ∀ x ∈ [V.str line, .non, .ref pt, .int 0, .ref l5], ∃ n, Th H7 x n := by
        intro x hx
        simp only [List.mem_cons, List.not_mem_nil, or_false] at hx
        rcases hx with rfl | rfl | rfl | rfl | rfl
        · exact ⟨_, .str line (by omega) (AlnT.asc la)⟩
        · exact ⟨_, .non⟩
        · exact ⟨_, .tup (s07 _ _ ht)⟩
        · exact ⟨_, .int 0⟩
        · exact ⟨_, .lst hl5⟩
      refine ⟨l6, rfl, ⟨_, SqL.of hl6⟩, for_list (K := K) (a := l6) (xs := [.str line, .non, .ref pt, .int 0, .ref l5]) (fun i σ H8 => H8 = H7 ∧ ∃ v5 v6, σ = [some (.ref p), some (.ref pt), some (.int (k : Nat)), some (.str line), some (.ref l1), v5, v6]) ⟨rfl, _, _, rfl⟩ (fun i σ H8 _ h => by rw [h.1]; exact SqL.of hl6) ?_ ?_⟩
      · rintro i x σ H8 hx ⟨rfl, v5, v6, rfl⟩
        obtain ⟨n, th⟩ := ths x (List.mem_of_getElem? hx)
        refine ⟨_, rfl, _, rfl, p, C', dx', fs', _, rfl, mem', g2, th.ty, fc'.nf7 n, p, _, _, _, x, rfl, st7', Or.inr ⟨n, th, false, rfl, _, rfl, ?_⟩⟩
        refine ⟨_, rfl, _, rfl, p, C', dx', fs', _, rfl, mem', g2, th.ty, fc'.nf7 n, p, _, _, _, x, rfl, st7', Or.inr ⟨n, th, false, rfl, _, rfl, ?_⟩⟩
        exact ⟨rfl, _, _, rfl⟩
      · rintro σ H8 ⟨rfl, v5, v6, rfl⟩
        exact q _ s07
end
end K03
set_option Elab.async false
set_option linter.all false
set_option maxRecDepth 100000
set_option maxHeartbeats 4000000
namespace K03
open PySem PySem.Spec PyProof.Rows L2 Mo
section
variable {w : World} {K : PySem.W.Frag} {mg : Str → Option Value} {base : Heap} {A : Ads}
/-- statements made of trees, one by one -/
def MadeAt (K : PySem.W.Frag) (A : Ads) (H : Hp) (ts : List (Addr × Tre)) (qs : List Addr) : Prop := qs.length = ts.length ∧ ∀ (j : Nat) (q : Addr) (t : Addr × Tre), qs[j]? = some q → ts[j]? = some t → StAt K A H q (oneD t.2.k t.2.line) [] []
theorem MadeAt.mv {H H' : Hp} {ts : List (Addr × Tre)} {qs : List Addr} (h : MadeAt K A H ts qs) (k : KpT H H') : MadeAt K A H' ts qs := ⟨h.1, fun j q t a b => (h.2 j q t a b).mv k⟩
theorem MadeAt.app {H : Hp} {t1 t2 : List (Addr × Tre)} {q1 q2 : List Addr} (h1 : MadeAt K A H t1 q1) (h2 : MadeAt K A H t2 q2) : MadeAt K A H (t1 ++ t2) (q1 ++ q2) := by
  refine ⟨by rw [List.length_append, List.length_append, h1.1, h2.1], fun j q t a b => ?_⟩
  by_cases hj : j < q1.length
  · rw [List.getElem?_append_left hj] at a
    rw [List.getElem?_append_left (by rw [← h1.1]; exact hj)] at b
    exact h1.2 j q t a b
  · rw [List.getElem?_append_right (by omega)] at a
    rw [List.getElem?_append_right (by have := h1.1; omega), ← h1.1] at b
    exact h2.2 _ q t a b
theorem made_lc {H : Hp} {a l : Addr} {ts : List (Addr × Tre)} {vs : List Nat} {σ : L2.St} {D : Addr} {Qd : Hp → Prop} {te : TE} {i9 : Nat} (src : Src H a) (hl : H l = some (.lst (tRefs ts))) (ht : TreesAt H ts) (hlen : ts.length ≤ 100) (hD : H D = none)
    (hte : ∀ (t : Addr × Tre) (H2 : Hp) (R : VK), Src H2 a → TreeAt H2 t → (∀ (q : Addr) (H' : Hp), H2 q = none → StAt K A H' q (oneD t.2.k t.2.line) [] [] → Src H' a → KeepBut a H2 H' → R (.ref q) H') → te ((wipe σ vs).set i9 (some (.ref t.1))) H2 R) (hw : ∀ x, wipe ((wipe σ vs).set i9 x) vs = wipe σ vs)
    (hq : ∀ (qs : List Addr) (H2 : Hp), MadeAt K A H2 ts qs → H2 D = some (.lst (qs.map V.ref)) → Src H2 a → KeepBut a H H2 → Qd H2) :
    ∃ W : Nat → Nat → Hp → Prop, (∃ m, W 0 m (upd H D (.lst []))) ∧ ∀ i m H, W i m H →
      ((Itl K l).stop i H ∧ Qd H) ∨ ((Itl K l).go i H ∧ ∃ Nx : Hp → Prop, (∀ H', Nx H' → ∃ m', m' < m ∧ W (i + 1) m' H') ∧ ∀ x H', (Itl K l).yld i H x H' → gName i9 x (wipe σ vs) H' fun σ2 H2 => wipe σ2 vs = wipe σ vs ∧ tYes σ2 H2 fun b H3 =>
        if b = true then te σ2 H3 fun y H4 => ∃ acc, H4 D = some (.lst acc) ∧ acc.length < sizeLine ∧ Nx (upd H4 D (.lst (acc ++ [y]))) else Nx H3) := by
  have nD : D ≠ a := src.fresh hD
  have nl : l ≠ a := by
    have : tRefs ts = (ts.map (·.1)).map V.ref := by simp [tRefs]
    rw [this] at hl
    exact src.ne_refs hl
  refine lc_it (walk_list (K := K) (a := l) (xs := tRefs ts)) (g := gName i9) (tt := tYes) (te := te) (fun i H2 => ∃ qs : List Addr, MadeAt K A H2 (ts.take i) qs ∧ H2 D = some (.lst (qs.map V.ref)) ∧ Src H2 a ∧ KeepBut a H H2) ⟨[], ⟨by simp, fun j q t h _ => by simp at h⟩, upd_same, src.same (same_new hD), KeepBut.of_same (same_new hD)⟩ (fun i H2 _ h => ?_) ?_ ?_
  · obtain ⟨qs, _, _, _, kb⟩ := h
    exact SqL.of (kb _ _ nl hl)
  · rintro i x H1 H2 hi ⟨qs, mad, hd, src2, kb2⟩ ⟨rfl, hx⟩
    have hx : (ts.map fun t => V.ref t.1)[i]? = some x := hx
    rw [List.getElem?_map] at hx
    obtain ⟨t, ht', rfl⟩ := Option.map_eq_some_iff.mp hx
    have lq : qs.length = i := by
      rw [mad.1, List.length_take]
      have := (List.getElem?_eq_some_iff.mp ht').1
      omega
    have hi2 := (List.getElem?_eq_some_iff.mp ht').1
    refine ⟨hw _, hte t H2 _ src2 ?_ fun q H' nq st src' kb' => ?_⟩
    · have := ht t (List.mem_of_getElem? ht')
      refine ⟨kb2 _ _ ?_ this.1, this.2⟩
      obtain ⟨x1, y1, c1, e1, _⟩ := src
      exact ne_of this.1 e1 (by intro z; cases z)
    · obtain ⟨x2, e2⟩ := src2.lst
      have hd' := kb' _ _ nD hd
      have k1 : KpT H2 H' := KpT.lst e2 kb'
      have k2 : KpT H' (upd H' D (.lst (qs.map V.ref ++ [.ref q]))) := KpT.lst hd' (KeepBut.upd _ _ _)
      refine ⟨_, hd', by rw [List.length_map]; exact lt5000 (by omega), qs ++ [q], ⟨?_, fun j r u a b => ?_⟩, by rw [upd_same, List.map_append]; rfl, src'.upd nD, fun b o nb e => ?_⟩
      · rw [List.length_append, lq, List.length_take]
        show i + 1 = _
        omega
      · rw [List.take_add_one, ht'] at b
        by_cases hj : j < i
        · rw [List.getElem?_append_left (by omega)] at a
          rw [List.getElem?_append_left (by rw [List.length_take]; omega)] at b
          exact ((mad.2 j r u a b).mv k1).mv k2
        · rw [List.getElem?_append_right (by omega)] at a
          rw [List.getElem?_append_right (by rw [List.length_take]; omega)] at b
          have hj2 : j = i := by
            have := (List.getElem?_eq_some_iff.mp a).1
            simp at this
            omega
          subst hj2
          have e3 : min j ts.length = j := by omega
          rw [lq, Nat.sub_self] at a
          rw [List.length_take, e3, Nat.sub_self] at b
          cases a
          cases b
          exact st.mv k2
      · rw [upd_ne (ne_of_none e hD)]
        exact kb' _ _ nb (kb2 _ _ nb e)
  · rintro H2 ⟨qs, mad, hd, src2, kb2⟩
    rw [List.take_of_length_le (by simp [tRefs])] at mad
    exact hq qs H2 mad hd src2 kb2
theorem seven_of {ts : List (Addr × Tre)} (h : ts.length = 7) (hk : ∀ (i : Nat) (t : Addr × Tre), ts[i]? = some t → t.2.k = i) : ∀ (i : Nat) (t : Addr × Tre), ts[i]? = some t → t.2.k = i % 7 := fun i t e => by
  have := (List.getElem?_eq_some_iff.mp e).1
  rw [hk i t e]
  omega
theorem fourteen {t1 t2 : List (Addr × Tre)} (h1 : t1.length = 7) (h2 : t2.length = 7) (k1 : ∀ (i : Nat) (t : Addr × Tre), t1[i]? = some t → t.2.k = i) (k2 : ∀ (i : Nat) (t : Addr × Tre), t2[i]? = some t → t.2.k = i) (i : Nat) (t : Addr × Tre) (h : (t1 ++ t2)[i]? = some t) : t.2.k = i % 7 := by
  by_cases hi : i < 7
  · rw [List.getElem?_append_left (by omega)] at h
    rw [k1 i t h]
    omega
  · rw [List.getElem?_append_right (by omega)] at h
    have := (List.getElem?_eq_some_iff.mp h).1
    rw [k2 _ t h]
    omega
theorem three_of {zs : List Str} (h : (zs.length : Int) = 3) : ∃ a b c, zs = [a, b, c] := by
  have h : zs.length = 3 := by omega
  match zs, h with
  | [a, b, c], _ => exact ⟨a, b, c, rfl⟩
theorem bl_repr (b : Bool) : (PyData.list [.bool b, .bool (!b)]).showable = true ∧ (PyData.list [.bool b, .bool (!b)]).hasDict = false ∧ (PyData.list [.bool b, .bool (!b)]).depth ≤ 60 ∧ (PyData.list [.bool b, .bool (!b)]).shown.length ≤ sizeLine := by
  cases b
  · exact ⟨by decide +kernel, by decide +kernel, by decide +kernel, by decide +kernel⟩
  · exact ⟨by decide +kernel, by decide +kernel, by decide +kernel, by decide +kernel⟩
def spRight : Sp := fun vs H Q _ => ∃ a : Addr, vs = [.ref a] ∧ Src H a ∧ ∀ H', KeepBut a H H' → Q (.bl true) H'
theorem ok_law_right (T : Txt K mg A) : FnG P w K mg base CX0 9 A.a_law_right A.d_law_right ["_law_source_here"] spRight := by
  have nd := sc_law_right.nd
  refine Fun_okG T.f_law_right sc_law_right (fun vs H Q E h => ?_) (fun cdv A' outer s H vs Q E hr hG h => ?_)
  · obtain ⟨a, rfl, _⟩ := h
    rfl
  · obtain ⟨a, rfl, src, q⟩ := h
    refine ⟨_, (pss_cons (ps_set (i := 1) nd rfl (Or.inl rfl) (pe_call (ok_law_words T) (hr.mono (by decide)) (by rfl) T.m_law_words T.k_law_words T.v_law_words .nil pass0 (pa_cons (pv 0) (pa_cons pe_int pa_nil))))
      (pss_cons (ps_set (i := 2) nd rfl (Or.inl rfl) (pe_op op_cat (pe_call (ok_law_trees T) (hr.mono (by decide)) (by rfl) T.m_law_trees T.k_law_trees T.v_law_trees .nil pass0 (pa_cons (pv 0) (pa_cons (pv 1) pa_nil))) (pe_call (ok_law_trees T) (hr.mono (by decide)) (by rfl) T.m_law_trees T.k_law_trees T.v_law_trees .nil pass0 (pa_cons (pv 0) (pa_cons (pe_slice sl_list (pv 1) po_none (po_some pe_int)) pa_nil)))))
      (pss_cons (ps_setLc (i := 3) (own := [("_law_tree", 9)]) (g := gName 9) (tt := tYes) rfl nd rfl rfl (sw_true rfl rfl rfl (by decide +kernel)) (pi_list (pv 2)) (blkOk_by (N := nm_law_right) (sc := defScope st_law_right) (by decide +kernel)) (fun _ _ _ _ _ => (pg_name (i := 9) nd rfl (Or.inl rfl))) (fun _ _ _ _ _ => pts_nil) (fun _ _ _ _ _ => (pe_call (ok_law_made T) (hr.mono (by decide)) (by rfl) T.m_law_made T.k_law_made T.v_law_made .nil pass0 (pa_cons (pv 0) (pa_cons (pv 9) pa_nil)))))
      (pss_cons (ps_for PassesOwn.never rfl (pi_range1 (by rfl) T.b_range (pa_cons pe_int pa_nil)) (pg_name (i := 4) nd rfl (Or.inl rfl)) (pss_one (ps_if (pt_not (pt_val (pe_callG (ok_law_is T) (hr.mono (by decide)) hG (by rfl) T.m_law_is T.k_law_is T.v_law_is .nil pass0 (pa_cons (pe_ix ix_list (pv 3) (pv 4) (fun _ _ => rfl)) (pa_cons (pe_ix ix_list (pv 2) (pv 4) (fun _ _ => rfl)) (pa_cons (pe_op op_mod (pe_callTy call_int1 (by rfl) T.b_int (by decide +kernel) (pa_cons (pv 4) pa_nil)) pe_int) pa_nil)))))) (pss_one (ps_ret pe_bl)) pss_nil)))
      (pss_cons (ps_set (i := 5) nd rfl (Or.inl rfl) (pe_op op_cat (pv 3) (pe_lc (own := [("_law_tree", 9)]) (g := gName 9) (tt := tYes) rfl nd (pi_list (pv 2)) (blkOk_by (N := nm_law_right) (sc := defScope st_law_right) (by decide +kernel)) (fun _ _ _ _ _ => (pg_name (i := 9) nd rfl (Or.inl rfl))) (fun _ _ _ _ _ => pts_nil) (fun _ _ _ _ _ => (pe_call (ok_law_made T) (hr.mono (by decide)) (by rfl) T.m_law_made T.k_law_made T.v_law_made .nil pass0 (pa_cons (pv 0) (pa_cons (pv 9) pa_nil)))))))
      (pss_cons (ps_setLc (i := 6) (own := [("_law_tree", 9)]) (g := gName 9) (tt := tYes) rfl nd rfl rfl (sw_true rfl rfl rfl (by decide +kernel)) (pi_list (pe_op op_cat (pv 2) (pv 2))) (blkOk_by (N := nm_law_right) (sc := defScope st_law_right) (by decide +kernel)) (fun _ _ _ _ _ => (pg_name (i := 9) nd rfl (Or.inl rfl))) (fun _ _ _ _ _ => pts_nil) (fun _ _ _ _ _ => (pe_call (ok_law_head T) (hr.mono (by decide)) (by rfl) T.m_law_head T.k_law_head T.v_law_head .nil pass0 (pa_cons (pv 9) pa_nil))))
      (pss_cons (ps_for PassesOwn.never rfl (pi_range1 (by rfl) T.b_range (pa_cons pe_int pa_nil)) (pg_name (i := 4) nd rfl (Or.inl rfl)) (pss_one (ps_for PassesOwn.never rfl (pi_range1 (by rfl) T.b_range (pa_cons pe_int pa_nil)) (pg_name (i := 7) nd rfl (Or.inl rfl)) (pss_cons (ps_set (i := 8) nd rfl (Or.inl rfl) (pe_cmpR op_eq (pe_ix ix_list (pv 6) (pv 4) (fun _ _ => rfl)) (pe_ix ix_list (pv 6) (pv 7) (fun _ _ => rfl)) (nomark _)))
      (pss_one (ps_if (pt_cmpR op_ne (pe_callB (call_repr hr hG) (by rfl) T.b_repr (by decide +kernel) (pa_cons (pe_lst (pa_cons (pe_cmpR (op_eqF (ok_Statement___eq__ T) (hr.mono (by decide)) T.sp_Statement___eq__ T.v_Statement___eq__ pass0) (pe_ix ix_list (pv 5) (pv 4) (fun _ _ => rfl)) (pe_ix ix_list (pv 5) (pv 7) (fun _ _ => rfl)) (nomark _)) (pa_cons (pe_cmpR (op_neF (ok_Statement___eq__ T) (hr.mono (by decide)) (fun C h => ⟨T.sp_Statement___eq__ C h, (T.fam C h).ne, (T.fam C h).mo⟩) T.v_Statement___eq__ pass0) (pe_ix ix_list (pv 5) (pv 4) (fun _ _ => rfl)) (pe_ix ix_list (pv 5) (pv 7) (fun _ _ => rfl)) (nomark _)) pa_nil))) pa_nil)) (pe_callB (call_repr hr hG) (by rfl) T.b_repr (by decide +kernel) (pa_cons (pe_lst (pa_cons (pv 8) (pa_cons (pe_not (pv 8)) pa_nil))) pa_nil)) (nomark _)) (pss_one (ps_ret pe_bl)) pss_nil))))))
      (pss_one (ps_ret pe_bl))))))))), ?_⟩
    refine ⟨_, rfl, a, _, rfl, src, by decide, by decide, fun pn zs H1 npn hpn lz nz dz src1 kb1 => ?_⟩
    obtain ⟨z0, z1, z2, rfl⟩ := three_of lz
    have nna : pn ≠ a := src1.ne_strs hpn
    refine ⟨_, rfl, _, rfl, a, pn, _, rfl, src1, hpn, by show 1 ≤ 3; decide, by show 3 ≤ 10; decide, nz, fun l1 ts1 H2 n1 h1 len1 k1 tr1 src2 kb2 => ?_⟩
    have hpn2 := kb2 _ _ nna hpn
    refine ⟨_, rfl, _, rfl, _, rfl, pn, _, rfl, SqL.of hpn2, fun p2 n2 => ?_⟩
    have e2 := same_new (o := .lst (([z0, z1] : List Str).map V.str)) n2
    refine ⟨a, p2, [z0, z1], rfl, src2.same e2, upd_same, by show 1 ≤ 2; decide, by show 2 ≤ 10; decide, fun z hz => nz z (by simp only [List.mem_cons, List.not_mem_nil, or_false] at hz ⊢; rcases hz with rfl | rfl <;> simp), fun l2 ts2 H3 n3 h3 len3 k3 tr3 src3 kb3 => ?_⟩
    have nl1 : l1 ≠ a := src1.fresh n1
    have hl1 := kb3 _ _ nl1 (e2 _ _ h1)
    have tl : ∀ l : List (Addr × Tre), (tRefs l).length = l.length := fun l => by simp [tRefs]
    refine ⟨l1, l2, _, _, rfl, rfl, hl1, h3, by rw [tl, tl, len1, len3]; decide, fun l3 n4 => ?_⟩
    have e4 := same_new (o := .lst (tRefs ts1 ++ tRefs ts2)) n4
    obtain ⟨ts, ets⟩ : ∃ ts, ts = ts1 ++ ts2 := ⟨_, rfl⟩
    have lts : ts.length = 14 := by rw [ets, List.length_append, len1, len3]
    have kts : ∀ (i : Nat) (t : Addr × Tre), ts[i]? = some t → t.2.k = i % 7 := by
      intro i t h
      rw [ets] at h
      exact fourteen len1 len3 k1 k3 i t h
    obtain ⟨x2, lx2⟩ := src2.lst
    obtain ⟨x2', lx2'⟩ := (src2.same e2).lst
    have trs3 : TreesAt H3 ts := by
      rw [ets]
      intro t ht
      rcases List.mem_append.mp ht with ht | ht
      · exact ((tr1.mv (KpT.of_same e2)).mv (KpT.lst lx2' kb3)) t ht
      · exact tr3 t ht
    have erf : tRefs ts1 ++ tRefs ts2 = tRefs ts := by rw [ets]; simp [tRefs]
    rw [erf] at e4 ⊢
    obtain ⟨H4, eH4⟩ : ∃ H4, H4 = upd H3 l3 (.lst (tRefs ts)) := ⟨_, rfl⟩
    rw [← eH4] at e4 ⊢
    have hl3 : H4 l3 = some (.lst (tRefs ts)) := by rw [eH4]; exact upd_same
    have trs4 := trs3.mv (KpT.of_same e4)
    have src4 := src3.same e4
    have kb4 : KeepBut a H H4 := (((kb1.trans kb2).trans (KeepBut.of_same e2)).trans kb3).trans (KeepBut.of_same e4)
    have nl3 : l3 ≠ a := src3.fresh n4
    -- the statements
    refine ⟨_, rfl, l3, rfl, ⟨_, SqL.of hl3⟩, fun D hD => made_lc (i9 := 9) src4 hl3 trs4 (by omega) hD (fun t H2 R s2 tr k => ⟨_, rfl, _, rfl, a, t.1, _, _, _, rfl, s2, tr.1, tr.2, k⟩) (fun _ => rfl) (fun qs H5 mad hd5 src5 kb5 => ?_)⟩
    have nD : D ≠ a := src4.fresh hD
    obtain ⟨x4, lx4⟩ := src4.lst
    have trs5 := trs4.mv (KpT.lst lx4 kb5)
    have hl35 := kb5 _ _ nl3 hl3
    refine ⟨14, rfl, by decide, by decide, for_range (lo := 0) (n := 14) (fun i σ H6 => Same H5 H6 ∧ ∃ v4 v5 v6 v7 v8 v9, σ = [some (.ref a), some (.ref pn), some (.ref l3), some (.ref D), v4, v5, v6, v7, v8, v9]) ⟨Same.refl _, _, _, _, _, _, _, rfl⟩ ?_ ?_⟩
    · rintro i σ H6 hi ⟨s6, v4, v5, v6, v7, v8, v9, rfl⟩
      have hit : i < ts.length := by omega
      have hiq : i < qs.length := by rw [mad.1]; exact hit
      have gt : ts[i]? = some ts[i] := List.getElem?_eq_getElem hit
      have gq : qs[i]? = some qs[i] := List.getElem?_eq_getElem hiq
      have at1 : atI (qs.map V.ref) (0 + (i : Int)) = some (.ref qs[i]) := by
        rw [Int.zero_add]
        exact atI_nat (by rw [List.getElem?_map, gq]; rfl)
      have at2 : atI (tRefs ts) (0 + (i : Int)) = some (.ref ts[i].1) := by
        rw [Int.zero_add]
        exact atI_nat (by unfold tRefs; rw [List.getElem?_map, gt]; rfl)
      have st := (mad.2 i _ _ gq gt).mv (KpT.of_same s6)
      have tr := trs5.mv (KpT.of_same s6) _ (List.mem_of_getElem? gt)
      rw [kts i _ gt] at st
      have one := tr.2
      rw [kts i _ gt] at one
      refine ⟨_, rfl, _, rfl, D, _, _, _, rfl, rfl, SqL.of (s6 _ _ hd5), at1, _, rfl, _, rfl, l3, _, _, _, rfl, rfl, SqL.of (s6 _ _ hl35), at2, _, rfl, Or.inl ⟨_, rfl, _, _, rfl, rfl, (by show (0 : Int) < 7; decide), ?_⟩⟩
      refine ⟨qs[i], ts[i].1, i % 7, ts[i].2.xs, ts[i].2.line, congrArg (fun z => [V.ref qs[i], V.ref ts[i].1, V.int z]) (by omega), st, tr.1, one, fun H7 s7 => ⟨_, rfl, ?_⟩⟩
      exact ⟨s6.trans s7, _, _, _, _, _, _, rfl⟩
    · rintro σ H6 ⟨s6, v4, v5, v6, v7, v8, v9, rfl⟩
      have src6 := src5.same s6
      have trs6 := trs5.mv (KpT.of_same s6)
      have hl36 := s6 _ _ hl35
      have kb6 : KeepBut a H H6 := (kb4.trans kb5).trans (KeepBut.of_same s6)
      -- once more
      refine ⟨_, rfl, _, rfl, l3, rfl, ⟨_, SqL.of hl36⟩, fun D2 hD2 => made_lc (i9 := 9) src6 hl36 trs6 (by omega) hD2 (fun t H2 R s2 tr k => ⟨_, rfl, _, rfl, a, t.1, _, _, _, rfl, s2, tr.1, tr.2, k⟩) (fun _ => rfl) (fun qs2 H7 mad2 hd7 src7 kb7 => ?_)⟩
      obtain ⟨x6, lx6⟩ := src6.lst
      have k67 : KpT H6 H7 := KpT.lst lx6 kb7
      have hd57 := kb7 _ _ nD (s6 _ _ hd5)
      have mad7 := (mad.mv (KpT.of_same s6)).mv k67
      have mm := mad7.app mad2
      refine ⟨D, D2, _, _, rfl, rfl, hd57, hd7, by rw [List.length_map, List.length_map, mad.1, mad2.1, lts]; decide, fun l4 n7 => ?_⟩
      have e8 := same_new (o := .lst (qs.map V.ref ++ qs2.map V.ref)) n7
      rw [← List.map_append] at e8 ⊢
      obtain ⟨ms, ems⟩ : ∃ ms, ms = qs ++ qs2 := ⟨_, rfl⟩
      obtain ⟨tt, ett⟩ : ∃ tt, tt = ts ++ ts := ⟨_, rfl⟩
      rw [← ems] at e8 mm ⊢
      rw [← ett] at mm
      have ltt : tt.length = 28 := by rw [ett, List.length_append, lts]
      obtain ⟨H8, eH8⟩ : ∃ H8, H8 = upd H7 l4 (.lst (ms.map V.ref)) := ⟨_, rfl⟩
      rw [← eH8] at e8 ⊢
      have hl48 : H8 l4 = some (.lst (ms.map V.ref)) := by rw [eH8]; exact upd_same
      have hl38 := e8 _ _ (kb7 _ _ nl3 hl36)
      have k68 := k67.trans (KpT.of_same e8)
      have mm8 := mm.mv (KpT.of_same e8)
      have kb8 : KeepBut a H H8 := (kb6.trans kb7).trans (KeepBut.of_same e8)
      -- the heads
      refine ⟨_, rfl, _, rfl, l3, l3, _, _, rfl, rfl, hl38, hl38, by rw [tl, lts]; decide, fun l5 n8 => ?_⟩
      have e9 := same_new (o := .lst (tRefs ts ++ tRefs ts)) n8
      have ett2 : tRefs ts ++ tRefs ts = tRefs tt := by rw [ett]; simp [tRefs]
      rw [ett2] at e9 ⊢
      have trt : TreesAt (upd H8 l5 (.lst (tRefs tt))) tt := by
        intro t ht
        rw [ett] at ht
        have ht : t ∈ ts := (List.mem_append.mp ht).elim id id
        exact ((trs6.mv k68).mv (KpT.of_same e9)) t ht
      refine ⟨l5, rfl, ⟨_, SqL.of upd_same⟩, fun D3 hD3 => lc_it (walk_list (K := K) (a := l5) (xs := tRefs tt)) (fun i H9 => Same (upd H8 l5 (.lst (tRefs tt))) H9 ∧ H9 D3 = some (.lst (((tt.take i).map fun t => t.2.line).map V.str))) ⟨same_new hD3, upd_same⟩ (fun i H9 _ h => SqL.of (h.1 _ _ upd_same)) ?_ ?_⟩
      · rintro i x H9 H10 hi ⟨s9, hd9⟩ ⟨rfl, hx⟩
        have hx : (tt.map fun t => V.ref t.1)[i]? = some x := hx
        rw [List.getElem?_map] at hx
        obtain ⟨t, ht', rfl⟩ := Option.map_eq_some_iff.mp hx
        have tr := trt.mv (KpT.of_same s9) t (List.mem_of_getElem? ht')
        refine ⟨rfl, _, rfl, t.1, _, _, _, rfl, tr.1, tr.2, fun H11 s11 => ⟨_, s11 _ _ hd9, ?_, ?_, ?_⟩⟩
        · rw [List.length_map, List.length_map, List.length_take]
          exact lt5000 (by omega)
        · intro b o e
          rw [upd_ne (ne_of_none e hD3)]
          exact s11 _ _ (s9 _ _ e)
        · rw [upd_same, List.take_add_one, ht']
          simp
      · rintro H9 ⟨s9, hd9⟩
        rw [List.take_of_length_le (by simp [tRefs])] at hd9
        have s89 := e9.trans s9
        have mm9 := mm8.mv (KpT.of_same s89)
        have hl49 := s89 _ _ hl48
        have kb9 : KeepBut a H H9 := kb8.trans (KeepBut.of_same s89)
        have lms : ms.length = 28 := by rw [mm.1, ltt]
        refine ⟨28, rfl, by decide, by decide, for_range (lo := 0) (n := 28) (fun i σ H10 => Same H9 H10 ∧ ∃ v4 v7 v8 v9, σ = [some (.ref a), some (.ref pn), some (.ref l3), some (.ref D), v4, some (.ref l4), some (.ref D3), v7, v8, v9]) ⟨Same.refl _, _, _, _, _, rfl⟩ ?_ ?_⟩
        · rintro i σ H10 hi ⟨s10, v4, v7, v8, v9, rfl⟩
          refine ⟨28, rfl, by decide, by decide, for_range (lo := 0) (n := 28) (fun j σ H11 => Same H9 H11 ∧ ∃ v7 v8 v9, σ = [some (.ref a), some (.ref pn), some (.ref l3), some (.ref D), some (.int (0 + (i : Int))), some (.ref l4), some (.ref D3), v7, v8, v9]) ⟨s10, _, _, _, rfl⟩ ?_ ?_⟩
          · rintro j σ H11 hj ⟨s11, w7, w8, w9, rfl⟩
            have hit : i < tt.length := by omega
            have hjt : j < tt.length := by omega
            have him : i < ms.length := by omega
            have hjm : j < ms.length := by omega
            have gi : tt[i]? = some tt[i] := List.getElem?_eq_getElem hit
            have gj : tt[j]? = some tt[j] := List.getElem?_eq_getElem hjt
            have mi : ms[i]? = some ms[i] := List.getElem?_eq_getElem him
            have mj : ms[j]? = some ms[j] := List.getElem?_eq_getElem hjm
            have a1 : atI ((tt.map fun t => t.2.line).map V.str) (0 + (i : Int)) = some (.str tt[i].2.line) := by
              rw [Int.zero_add]
              exact atI_nat (by rw [List.getElem?_map, List.getElem?_map, gi]; rfl)
            have a2 : atI ((tt.map fun t => t.2.line).map V.str) (0 + (j : Int)) = some (.str tt[j].2.line) := by
              rw [Int.zero_add]
              exact atI_nat (by rw [List.getElem?_map, List.getElem?_map, gj]; rfl)
            have b1 : atI (ms.map V.ref) (0 + (i : Int)) = some (.ref ms[i]) := by
              rw [Int.zero_add]
              exact atI_nat (by rw [List.getElem?_map, mi]; rfl)
            have b2 : atI (ms.map V.ref) (0 + (j : Int)) = some (.ref ms[j]) := by
              rw [Int.zero_add]
              exact atI_nat (by rw [List.getElem?_map, mj]; rfl)
            have hh := s11 _ _ hd9
            have hm := s11 _ _ hl49
            have si := (mm9.2 i _ _ mi gi).mv (KpT.of_same s11)
            have sj := (mm9.2 j _ _ mj gj).mv (KpT.of_same s11)
            have si' := si
            have sj' := sj
            obtain ⟨C, dx, fs, ps, pr, pb, po, h1, h2, h3, h4, h5, h6, h7, h8, h9, h10, h11, h12⟩ := si
            obtain ⟨C', dx', fs', ps', pr', pb', po', g1, g2, g3, g4, g5, g6, g7, g8, g9, g10, g11, g12⟩ := sj
            have mC := List.mem_of_getElem? h1
            have mC' := List.mem_of_getElem? g1
            have tyj := (T.fam C' mC').ty _ _ _ _ g2
            have nf := (T.tab _ _ C C' h1 g1).2
            obtain ⟨al, eal⟩ : ∃ al, al = decide (V.str tt[i].2.line = V.str tt[j].2.line) := ⟨_, rfl⟩
            have er : decide ((oneD tt[i].2.k tt[i].2.line).rows = (oneD tt[j].2.k tt[j].2.line).rows) = al := by
              rw [eal]
              show decide ([tt[i].2.line] = [tt[j].2.line]) = _
              rw [Bool.eq_iff_iff]
              simp
            refine ⟨_, rfl, _, rfl, D3, _, _, _, rfl, rfl, SqL.of hh, a1, _, rfl, _, rfl, D3, _, _, _, rfl, rfl, SqL.of hh, a2, rfl, ?_⟩
            rw [← eal]
            refine ⟨_, rfl, _, rfl, l4, _, _, _, rfl, rfl, SqL.of hm, b1, _, rfl, _, rfl, l4, _, _, _, rfl, rfl, SqL.of hm, b2, ms[i], C, dx, fs, _, rfl, mC, h2, tyj, nf, ms[i], _, _, _, _, rfl, si', Or.inl ⟨ms[j], _, _, _, rfl, sj', _, rfl, ?_⟩⟩
            refine ⟨_, rfl, _, rfl, l4, _, _, _, rfl, rfl, SqL.of hm, b1, _, rfl, _, rfl, l4, _, _, _, rfl, rfl, SqL.of hm, b2, ms[i], C, dx, fs, _, rfl, mC, h2, tyj, nf, ms[i], _, _, _, _, rfl, si', Or.inl ⟨ms[j], _, _, _, rfl, sj', _, rfl, (by show 2 ≤ sizeLine; decide), fun r1 m1 => ?_⟩⟩
            rw [er]
            have bo := bl_repr al
            have f1 := same_new (o := .lst [.bl al, .bl (!al)]) m1
            refine ⟨r1, .list [.bool al, .bool (!al)], rfl, .lst (SqL.of upd_same) (.cons (.bl _) (.cons (.bl _) .nil)), bo.1, bo.2.1, bo.2.2.1, bo.2.2.2, ?_⟩
            refine ⟨_, rfl, _, rfl, al, rfl, (by show 2 ≤ sizeLine; decide), fun r2 m2 => ⟨r2, .list [.bool al, .bool (!al)], rfl, .lst (SqL.of upd_same) (.cons (.bl _) (.cons (.bl _) .nil)), bo.1, bo.2.1, bo.2.2.1, bo.2.2.2, rfl, _, rfl, iteNS rfl ?_⟩⟩
            exact ⟨(s11.trans f1).trans (same_new m2), _, _, _, rfl⟩
          · rintro σ H11 ⟨s11, w7, w8, w9, rfl⟩
            exact ⟨s11, _, _, _, _, rfl⟩
        · rintro σ H10 ⟨s10, v4, v7, v8, v9, rfl⟩
          exact q _ (kb9.trans (KeepBut.of_same s10))
end
end K03
set_option Elab.async false
set_option linter.all false
set_option maxRecDepth 100000
set_option maxHeartbeats 4000000
namespace K03
open PySem PySem.Spec PyProof.Rows L2 Mo
abbrev tenW : List Str := ["look", "put", "swap", "try", "let", "if", "loop", "leave", "return", "joined"]
theorem ten_ok : (PyData.list (tenW.map PyData.str)).showable = true ∧ (PyData.list (tenW.map PyData.str)).hasDict = false ∧ (PyData.list (tenW.map PyData.str)).depth ≤ 60 ∧ (PyData.list (tenW.map PyData.str)).shown.length ≤ sizeLine :=
  ⟨by decide +kernel, by decide +kernel, by decide +kernel, by decide +kernel⟩
section
variable {w : World} {K : PySem.W.Frag} {mg : Str → Option Value} {base : Heap} {A : Ads}
def spLaw (K : PySem.W.Frag) : Sp := fun vs H Q _ => ∃ (a : Addr) (ns : List Int), vs = [.ref a] ∧ SqL K H a (ns.map V.int) ∧ ns.length ≤ 63 ∧ (∀ z ∈ ns, Builtin.Int.intBits z ≤ 1048576) ∧ ∀ H', Q (.bl true) H'
theorem ok_law (T : Txt K mg A) : FnG P w K mg base CX0 10 A.a_law A.d_law ["_law_numbers"] (spLaw K) := by
  have nd := sc_law.nd
  refine Fun_okG T.f_law sc_law (fun vs H Q E h => ?_) (fun cdv A' outer s H vs Q E hr hG h => ?_)
  · obtain ⟨v, ns, rfl, _⟩ := h
    rfl
  · obtain ⟨a, ns, rfl, hS, hl, hb, k⟩ := h
    have mem : ∀ (j : Nat) (C : Addr), A.fam[j]? = some C → C ∈ A.fam := fun j C h => List.mem_of_getElem? h
    obtain ⟨u_Look, c_Look⟩ := T.cv_Look
    obtain ⟨u_Put, c_Put⟩ := T.cv_Put
    obtain ⟨u_Swap, c_Swap⟩ := T.cv_Swap
    obtain ⟨u_Try, c_Try⟩ := T.cv_Try
    obtain ⟨u_Let, c_Let⟩ := T.cv_Let
    obtain ⟨u_If, c_If⟩ := T.cv_If
    obtain ⟨u_Loop, c_Loop⟩ := T.cv_Loop
    obtain ⟨u_Leave, c_Leave⟩ := T.cv_Leave
    obtain ⟨u_Return, c_Return⟩ := T.cv_Return
    obtain ⟨u_Joined, c_Joined⟩ := T.cv_Joined
    refine ⟨_, (pss_cons (ps_set (i := 1) nd rfl (Or.inl rfl) (pe_lst (pa_cons (ClX.pe_cval (pe_gR T.m_Look)) (pa_cons (ClX.pe_cval (pe_gR T.m_Put)) (pa_cons (ClX.pe_cval (pe_gR T.m_Swap)) (pa_cons (ClX.pe_cval (pe_gR T.m_Try)) (pa_cons (ClX.pe_cval (pe_gR T.m_Let)) pa_nil)))))))
      (pss_cons (ps_set (i := 1) nd rfl (Or.inl rfl) (pe_op op_cat (pv 1) (pe_lst (pa_cons (ClX.pe_cval (pe_gR T.m_If)) (pa_cons (ClX.pe_cval (pe_gR T.m_Loop)) (pa_cons (ClX.pe_cval (pe_gR T.m_Leave)) (pa_cons (ClX.pe_cval (pe_gR T.m_Return)) (pa_cons (ClX.pe_cval (pe_gR T.m_Joined)) pa_nil))))))))
      (pss_cons (ps_set (i := 2) nd rfl (Or.inl rfl) (pe_lst (pa_cons pe_str (pa_cons pe_str (pa_cons pe_str (pa_cons pe_str (pa_cons pe_str (pa_cons pe_str (pa_cons pe_str (pa_cons pe_str (pa_cons pe_str (pa_cons pe_str pa_nil))))))))))))
      (pss_cons (ps_if (pt_cmpR op_ne (pe_callB (call_repr hr hG) (by rfl) T.b_repr (by decide +kernel) (pa_cons (pv 1) pa_nil)) (pe_callB (call_repr hr hG) (by rfl) T.b_repr (by decide +kernel) (pa_cons (pv 2) pa_nil)) (nomark _)) (pss_one (ps_ret pe_bl)) pss_nil)
      (pss_one (ps_ret (pe_callB (cr_all rfl) (by rfl) T.b_all (by decide +kernel) (pa_cons (pe_lc (own := [("_law_k", 3)]) (g := gName 3) (tt := tYes) rfl nd (pi_range1 (by rfl) T.b_range (pa_cons (pe_callB (call_max2 rfl) (by rfl) T.b_max (by decide +kernel) (pa_cons pe_int (pa_cons (pe_callB (call_min2 rfl) (by rfl) T.b_min (by decide +kernel) (pa_cons (pe_callB call_len_seq (by rfl) T.b_len (by decide +kernel) (pa_cons (pv 0) pa_nil)) (pa_cons pe_int pa_nil))) pa_nil))) pa_nil)) (blkOk_by (N := nm_law) (sc := defScope st_law) (by decide +kernel)) (fun _ _ _ _ _ => (pg_name (i := 3) nd rfl (Or.inl rfl))) (fun _ _ _ _ _ => pts_nil) (fun _ _ _ _ _ => (pe_callG (ok_law_right T) (hr.mono (by decide)) hG (by rfl) T.m_law_right T.k_law_right T.v_law_right .nil pass0 (pa_cons (pe_call (ok_law_source T) (hr.mono (by decide)) (by rfl) T.m_law_source T.k_law_source T.v_law_source .nil pass0 (pa_cons (pe_call (ok_law_number T) (hr.mono (by decide)) (by rfl) T.m_law_number T.k_law_number T.v_law_number .nil pass0 (pa_cons (pv 0) (pa_cons (pv 3) pa_nil))) pa_nil)) pa_nil)))) pa_nil)))))))), ?_⟩
    refine ⟨_, _, _, u_Look, rfl, T.crd _ (mem 0 _ rfl), c_Look, _, _, _, u_Put, rfl, T.crd _ (mem 1 _ rfl), c_Put, _, _, _, u_Swap, rfl, T.crd _ (mem 2 _ rfl), c_Swap, _, _, _, u_Try, rfl, T.crd _ (mem 3 _ rfl), c_Try, _, _, _, u_Let, rfl, T.crd _ (mem 4 _ rfl), c_Let, (by show 5 ≤ sizeLine; decide), fun p1 n1 => ?_⟩
    have e1 := same_new (o := .lst [.str "look", .str "put", .str "swap", .str "try", .str "let"]) n1
    refine ⟨_, rfl, _, _, _, u_If, rfl, T.crd _ (mem 7 _ rfl), c_If, _, _, _, u_Loop, rfl, T.crd _ (mem 8 _ rfl), c_Loop, _, _, _, u_Leave, rfl, T.crd _ (mem 5 _ rfl), c_Leave, _, _, _, u_Return, rfl, T.crd _ (mem 6 _ rfl), c_Return, _, _, _, u_Joined, rfl, T.crd _ (mem 9 _ rfl), c_Joined, (by show 5 ≤ sizeLine; decide), fun p2 n2 => ?_⟩
    have e2 := same_new (o := .lst [.str "if", .str "loop", .str "leave", .str "return", .str "joined"]) n2
    refine ⟨p1, p2, _, _, rfl, rfl, e2 _ _ upd_same, upd_same, (by show 5 + 5 ≤ sizeLine; decide), fun p3 n3 => ?_⟩
    have e3 := same_new (o := .lst (tenW.map V.str)) n3
    refine ⟨(by show 10 ≤ sizeLine; decide), fun p4 n4 => ?_⟩
    have e4 := same_new (o := .lst (tenW.map V.str)) n4
    refine ⟨_, rfl, p3, .list (tenW.map PyData.str), rfl, .lst (SqL.of (e4 _ _ upd_same)) (dp_strs tenW), ten_ok.1, ten_ok.2.1, ten_ok.2.2.1, ten_ok.2.2.2, ?_⟩
    refine ⟨_, rfl, p4, .list (tenW.map PyData.str), rfl, .lst (SqL.of upd_same) (dp_strs tenW), ten_ok.1, ten_ok.2.1, ten_ok.2.2.1, ten_ok.2.2.2, rfl, _, rfl, iteNS rfl ?_⟩
    have s0 := ((e1.trans e2).trans e3).trans e4
    refine ⟨_, rfl, a, _, rfl, Or.inl (s0.seq hS), _, _, rfl, _, _, rfl, ?_⟩
    generalize hj : (if (if 8 < ((ns.map V.int).length : Int) then (8 : Int) else ((ns.map V.int).length : Int)) > 2 then (if 8 < ((ns.map V.int).length : Int) then (8 : Int) else ((ns.map V.int).length : Int)) else 2) = j
    have hj2 : 0 ≤ j ∧ j ≤ 8 := by
      rw [← hj]
      split
      · split <;> omega
      · omega
    refine ⟨j, rfl, by omega, by omega, ?_⟩
    intro D hD0
    have hD : H D = none := s0.free hD0
    refine lc_range (lo := 0) (n := j.toNat) (fun i H2 => Same H H2 ∧ H2 D = some (.lst (List.replicate i (V.bl true)))) ⟨s0.trans (same_new hD0), upd_same⟩ ?_ ?_
    · rintro i H2 hi ⟨s2, hd⟩
      refine ⟨rfl, _, rfl, _, rfl, a, ns, _, rfl, s2.seq hS, hb, by omega, by omega, fun n H3 s3 => ⟨n, rfl, fun p H4 hp s4 src => ⟨p, rfl, src, fun H5 kb => ?_⟩⟩⟩
      have hd3 := s3 _ _ hd
      have hDp : D ≠ p := ne_of_none hd3 hp
      refine ⟨List.replicate i (V.bl true), kb _ _ hDp (s4 _ _ hd3), ?_, ?_, ?_⟩
      · rw [List.length_replicate]
        exact lt5000 (by omega)
      · intro b o e
        have hb1 : b ≠ D := ne_of_none e hD
        have hb2 : b ≠ p := ne_of_none (s3 _ _ (s2 _ _ e)) hp
        rw [upd_ne hb1]
        exact kb _ _ hb2 (s4 _ _ (s3 _ _ (s2 _ _ e)))
      · rw [upd_same, List.replicate_succ']
    · rintro H2 ⟨s2, hd⟩
      refine ⟨D, List.replicate j.toNat true, rfl, SqL.of ?_, ?_⟩
      · rw [hd, List.map_replicate]
      · have e : (List.replicate j.toNat true).all id = true := by simp
        rw [e]
        exact k H2
end
end K03
set_option Elab.async false
set_option linter.all false
set_option maxRecDepth 100000
namespace K03
open PySem L2 Mo
theorem walk {l : PySem.W.OpenLaw} {q : Program} {loose : List Str} {XP : (Str → Option Value) → Heap → Prop} {YP : World → Heap → Prop} {d : DefRec} {K : Params → PySem.W.Frag} (hP : l.prog = P) (hn : l.most = some 63) (hdf : d.params.defaults = []) (hnm : d.name = "law")
    (hY : ∀ (w : World) (h : Heap), YP w h → (K w.params).In h)
    (F : ∀ (w : World) (mg : Str → Option Value) (h : Heap), (K w.params).In h → h.Ns mainGlobals mg → ∃ A : Ads, Txt (K w.params) mg A ∧ ∀ (s : Shared) (v : Value), BindsTo s A.d_law ⟨[v], []⟩ [("_law_numbers", v)]) :
    PySem.W.WalkO q loose XP YP l.row.toRowW d [] (fun f vs => PySem.call f vs) := by
  refine walk_G (n := 63) (k := 10) (x := "_law_numbers") (sp := fun w => spLaw (K w.params)) hn (by decide) hdf ⟨rfl, by decide, by decide⟩ hY ?_ ?_
  · intro w mg fa h KX G hmg
    obtain ⟨A, T, hb⟩ := F w mg h KX G
    rw [hnm, T.m_law] at hmg
    cases hmg
    exact ⟨A.d_law, hb, fun base _ _ => by rw [hP]; exact ok_law T⟩
  · intro w H a ns h1 h2 _ h4
    exact ⟨a, ns, rfl, h4, h1, h2, fun _ => rfl⟩
end K03
open PySem PySem.W PyProof.Rows
set_option maxRecDepth 100000 in
set_option maxHeartbeats 0 in
theorem PySem.Challenge.cw_momentcalls_k03_statements_of_one_line_holds : PySem.Challenge.rw_momentcalls_k03_statements_of_one_line.Holds := by
  w_on; o_law; k_head; (case hw => w_witness2)
  k_fill
  refine K03.walk (l := PySem.Challenge.rw_momentcalls_k03_statements_of_one_line) rfl rfl rfl rfl (fun w h Y => PySem.W.kIn_of Y) ?F
  case F =>
    intro w mg h KX G
    refine' K03.txt_mk KX G ?z_abs ?z_all ?z_divmod ?z_int ?z_isinstance ?z_len ?z_list ?z_max ?z_min ?z_property ?z_range ?z_repr ?z_str ?z_sum ?z_super ?q_MAX_STATEMENTS ?q_MAX_LEVEL ?q_LETTERS ?q_SIGNS ?q_NOTHING ?q_YES ?q_LONGEST ?a_Statement ?a_Look ?a_Put ?a_Swap ?a_Try ?a_Let ?a_If ?a_Loop ?a_Leave ?a_Return ?a_Joined ?a0 ?l0 ?e0 ?k0 ?a1 ?l1 ?e1 ?k1 ?a2 ?l2 ?e2 ?k2 ?a3 ?l3 ?e3 ?k3 ?a4 ?i4 ?l4 ?e4 ?k4 ?dl4 ?dm4 ?dx4_0 ?dx4_1 ?dx4_2 ?fi4_ ?ft4_ ?a5 ?pg5 ?pt5 ?pr5 ?l5 ?e5 ?k5 ?a6 ?pg6 ?pt6 ?pr6 ?l6 ?e6 ?k6 ?a7 ?i7 ?l7 ?e7 ?k7 ?a8 ?i8 ?l8 ?e8 ?k8 ?a9 ?i9 ?l9 ?e9 ?k9 ?a10 ?i10 ?l10 ?e10 ?k10 ?co10 ?cp10 ?cq10 ?cr10 ?cs10 ?ct_10 ?cu10 ?a11 ?i11 ?l11 ?e11 ?k11 ?co11 ?cp11 ?cq11 ?cr11 ?cs11 ?ct_11 ?cu11 ?a12 ?i12 ?l12 ?e12 ?k12 ?co12 ?cp12 ?cq12 ?cr12 ?cs12 ?ct_12 ?cu12 ?a13 ?i13 ?l13 ?e13 ?k13 ?co13 ?cp13 ?cq13 ?cr13 ?cs13 ?ct_13 ?cu13 ?a14 ?i14 ?l14 ?e14 ?k14 ?co14 ?cp14 ?cq14 ?cr14 ?cs14 ?ct_14 ?cu14 ?a15 ?i15 ?l15 ?e15 ?k15 ?co15 ?cp15 ?cq15 ?cr15 ?cs15 ?ct_15 ?cu15 ?a16 ?i16 ?l16 ?e16 ?k16 ?co16 ?cp16 ?cq16 ?cr16 ?cs16 ?ct_16 ?cu16 ?a17 ?l17 ?e17 ?k17 ?a18 ?l18 ?e18 ?k18 ?a19 ?l19 ?e19 ?k19 ?a20 ?l20 ?e20 ?k20 ?a21 ?l21 ?e21 ?k21 ?a22 ?l22 ?e22 ?k22 ?a23 ?l23 ?e23 ?k23 ?a24 ?l24 ?e24 ?k24 ?a25 ?l25 ?e25 ?k25 ?a26 ?l26 ?e26 ?k26 ?a27 ?l27 ?e27 ?k27 ?a28 ?l28 ?e28 ?k28 ?a29 ?l29 ?e29 ?k29 ?a30 ?l30 ?e30 ?k30 ?xg_ ?xt_ ?fb_ ?fc_ ?ft_ ?fu_ ?fy_ ?fv_ ?fw5 ?fw6 ?fw7 ?fw8 ?fw9 ?fx_ ?wa_Look ?wg_Look ?wc_Look ?wa_Put ?wg_Put ?wc_Put ?wa_Swap ?wg_Swap ?wc_Swap ?wa_Try ?wg_Try ?wc_Try ?wa_Let ?wg_Let ?wc_Let ?wa_Leave ?wg_Leave ?wc_Leave ?wa_Return ?wg_Return ?wc_Return ?wa_If ?wg_If ?wc_If ?wa_Loop ?wg_Loop ?wc_Loop ?wa_Joined ?wg_Joined ?wc_Joined ?mk_Look ?kc_Look ?mk_Put ?kc_Put ?mk_Swap ?kc_Swap ?mk_Try ?kc_Try ?mk_Let ?kc_Let ?mk_Leave ?kc_Leave ?mk_Return ?kc_Return ?ztop ?zopq
    (case z_abs => k_is); (case z_all => k_is); (case z_divmod => k_is); (case z_int => k_is); (case z_isinstance => k_is); (case z_len => k_is); (case z_list => k_is); (case z_max => k_is); (case z_min => k_is); (case z_property => k_is); (case z_range => k_is); (case z_repr => k_is); (case z_str => k_is); (case z_sum => k_is); (case z_super => k_is); (case q_MAX_STATEMENTS => k_is); (case q_MAX_LEVEL => k_is); (case q_LETTERS => k_is); (case q_SIGNS => k_is); (case q_NOTHING => k_is); (case q_YES => k_is); (case q_LONGEST => k_is); (case a_Statement => k_is); (case a_Look => k_is); (case a_Put => k_is); (case a_Swap => k_is); (case a_Try => k_is); (case a_Let => k_is); (case a_If => k_is); (case a_Loop => k_is); (case a_Leave => k_is); (case a_Return => k_is); (case a_Joined => k_is); (case a0 => k_is); (case l0 => k_is); (case e0 => k_is); (case k0 => k_is); (case a1 => k_is); (case l1 => k_is); (case e1 => k_is); (case k1 => k_is); (case a2 => k_is); (case l2 => k_is); (case e2 => k_is); (case k2 => k_is); (case a3 => k_is); (case l3 => k_is); (case e3 => k_is); (case k3 => k_is); (case a4 => k_is); (case i4 => k_is); (case l4 => k_is); (case e4 => k_is); (case k4 => k_is); (case dl4 => k_is); (case dm4 => exact rfl); (case dx4_0 => k_is); (case dx4_1 => k_is); (case dx4_2 => k_is); (case fi4_ => k_is); (case ft4_ => k_is); (case a5 => k_is); (case pg5 => k_is); (case pt5 => k_is); (case pr5 => k_is); (case l5 => k_is); (case e5 => k_is); (case k5 => k_is); (case a6 => k_is); (case pg6 => k_is); (case pt6 => k_is); (case pr6 => k_is); (case l6 => k_is); (case e6 => k_is); (case k6 => k_is); (case a7 => k_is); (case i7 => k_is); (case l7 => k_is); (case e7 => k_is); (case k7 => k_is); (case a8 => k_is); (case i8 => k_is); (case l8 => k_is); (case e8 => k_is); (case k8 => k_is); (case a9 => k_is); (case i9 => k_is); (case l9 => k_is); (case e9 => k_is); (case k9 => k_is); (case a10 => k_is); (case i10 => k_is); (case l10 => k_is); (case e10 => k_is); (case k10 => k_is); (case co10 => k_is); (case cp10 => exact rfl); (case cq10 => exact rfl); (case cr10 => kernel_rfl); (case cs10 => k_is); (case ct_10 => exact rfl); (case cu10 => k_is); (case a11 => k_is); (case i11 => k_is); (case l11 => k_is); (case e11 => k_is); (case k11 => k_is); (case co11 => k_is); (case cp11 => exact rfl); (case cq11 => exact rfl); (case cr11 => kernel_rfl); (case cs11 => k_is); (case ct_11 => exact rfl); (case cu11 => k_is); (case a12 => k_is); (case i12 => k_is); (case l12 => k_is); (case e12 => k_is); (case k12 => k_is); (case co12 => k_is); (case cp12 => exact rfl); (case cq12 => exact rfl); (case cr12 => kernel_rfl); (case cs12 => k_is); (case ct_12 => exact rfl); (case cu12 => k_is); (case a13 => k_is); (case i13 => k_is); (case l13 => k_is); (case e13 => k_is); (case k13 => k_is); (case co13 => k_is); (case cp13 => exact rfl); (case cq13 => exact rfl); (case cr13 => kernel_rfl); (case cs13 => k_is); (case ct_13 => exact rfl); (case cu13 => k_is); (case a14 => k_is); (case i14 => k_is); (case l14 => k_is); (case e14 => k_is); (case k14 => k_is); (case co14 => k_is); (case cp14 => exact rfl); (case cq14 => exact rfl); (case cr14 => kernel_rfl); (case cs14 => k_is); (case ct_14 => exact rfl); (case cu14 => k_is); (case a15 => k_is); (case i15 => k_is); (case l15 => k_is); (case e15 => k_is); (case k15 => k_is); (case co15 => k_is); (case cp15 => exact rfl); (case cq15 => exact rfl); (case cr15 => kernel_rfl); (case cs15 => k_is); (case ct_15 => exact rfl); (case cu15 => k_is); (case a16 => k_is); (case i16 => k_is); (case l16 => k_is); (case e16 => k_is); (case k16 => k_is); (case co16 => k_is); (case cp16 => exact rfl); (case cq16 => exact rfl); (case cr16 => kernel_rfl); (case cs16 => k_is); (case ct_16 => exact rfl); (case cu16 => k_is); (case a17 => k_is); (case l17 => k_is); (case e17 => k_is); (case k17 => k_is); (case a18 => k_is); (case l18 => k_is); (case e18 => k_is); (case k18 => k_is); (case a19 => k_is); (case l19 => k_is); (case e19 => k_is); (case k19 => k_is); (case a20 => k_is); (case l20 => k_is); (case e20 => k_is); (case k20 => k_is); (case a21 => k_is); (case l21 => k_is); (case e21 => k_is); (case k21 => k_is); (case a22 => k_is); (case l22 => k_is); (case e22 => k_is); (case k22 => k_is); (case a23 => k_is); (case l23 => k_is); (case e23 => k_is); (case k23 => k_is); (case a24 => k_is); (case l24 => k_is); (case e24 => k_is); (case k24 => k_is); (case a25 => k_is); (case l25 => k_is); (case e25 => k_is); (case k25 => k_is); (case a26 => k_is); (case l26 => k_is); (case e26 => k_is); (case k26 => k_is); (case a27 => k_is); (case l27 => k_is); (case e27 => k_is); (case k27 => k_is); (case a28 => k_is); (case l28 => k_is); (case e28 => k_is); (case k28 => k_is); (case a29 => k_is); (case l29 => k_is); (case e29 => k_is); (case k29 => k_is); (case a30 => k_is); (case l30 => k_is); (case e30 => k_is); (case k30 => k_is); (case xg_ => k_is); (case xt_ => k_is); (case fb_ => kernel_rfl); (case fc_ => kernel_rfl); (case ft_ => kernel_rfl); (case fu_ => kernel_rfl); (case fy_ => kernel_rfl); (case fv_ => kernel_rfl); (case fw5 => kernel_rfl); (case fw6 => kernel_rfl); (case fw7 => kernel_rfl); (case fw8 => kernel_rfl); (case fw9 => kernel_rfl); (case fx_ => kernel_rfl); (case wa_Look => k_is); (case wg_Look => k_is); (case wc_Look => k_is); (case wa_Put => k_is); (case wg_Put => k_is); (case wc_Put => k_is); (case wa_Swap => k_is); (case wg_Swap => k_is); (case wc_Swap => k_is); (case wa_Try => k_is); (case wg_Try => k_is); (case wc_Try => k_is); (case wa_Let => k_is); (case wg_Let => k_is); (case wc_Let => k_is); (case wa_Leave => k_is); (case wg_Leave => k_is); (case wc_Leave => k_is); (case wa_Return => k_is); (case wg_Return => k_is); (case wc_Return => k_is); (case wa_If => k_is); (case wg_If => k_is); (case wc_If => k_is); (case wa_Loop => k_is); (case wg_Loop => k_is); (case wc_Loop => k_is); (case wa_Joined => k_is); (case wg_Joined => k_is); (case wc_Joined => k_is); (case mk_Look => k_is); (case kc_Look => k_is); (case mk_Put => k_is); (case kc_Put => k_is); (case mk_Swap => k_is); (case kc_Swap => k_is); (case mk_Try => k_is); (case kc_Try => k_is); (case mk_Let => k_is); (case kc_Let => k_is); (case mk_Leave => k_is); (case kc_Leave => k_is); (case mk_Return => k_is); (case kc_Return => k_is); (case ztop => kernel_rfl); (case zopq => k_is)
#print axioms PySem.Challenge.cw_momentcalls_k03_statements_of_one_line_holds
