import PyProof.Rows.All
import Wide.All
import OpenK.AllK
import Wide.FinOn
import Lean
import PySem.Challenge.RW_on0310_01
open PySem PySem.W PyProof.Rows PySem.Calls
set_option Elab.async false
set_option maxRecDepth 100000
namespace Mine
/-- the objects of a heap as a tree -/
noncomputable def grow : List Obj → BT → Nat → Option (BT × Nat)
  | [], t, n => some (t, n)
  | o :: l, t, n => match ((t.ins n o).get n).isSome with
    | true => grow l (t.ins n o) (n + 1)
    | false => none
theorem grow_of (life : Life) : ∀ (l : List Obj) (t : BT) (n : Nat) (r : BT × Nat), grow l t n = some r →
    absHeap r.1 r.2 life = ⟨(absHeap t n life).objs ++ l.toArray, life⟩
  | [], t, n, r, h => by
    cases h
    show absHeap t n life = _
    rw [Array.append_empty]
    rfl
  | o :: l, t, n, r, h => by
    unfold grow at h
    cases e : ((t.ins n o).get n).isSome with
    | false => rw [e] at h; cases h
    | true =>
      rw [e] at h
      rw [grow_of life l _ _ r h, absHeap_ins e]
      show Heap.mk ((absHeap t n life).objs.push o ++ l.toArray) life = _
      congr 1
      apply Array.ext'
      simp
/-- the top's run over the tree -/
noncomputable def runT (thr : Thread → Bool) (ok : Thread → Bool) (st : SharedT → Thread → Option (SharedT × Thread)) : Nat → SharedT → Thread → Option SharedT
  | 0, _, _ => none
  | n + 1, s, t => match thr t with
    | true => some s
    | false => match ok t with
      | false => none
      | true => match st s t with
        | some (s', t') => runT thr ok st n s' t'
        | none => none
theorem runT_of {tb : String → Option Builtin} {p : Program} {w : World} {n₀ : Nat} {ann : Option Value} : ∀ (n : Nat) (s s' : SharedT) (t : Thread),
    runT through (stepOk n₀ ann) (stepT (denote tb) p w) n s t = some s' → topRun tb p w n₀ ann n s.abs t = some s'.abs
  | 0, _, _, _, h => by cases h
  | n + 1, s, s', t, h => by
    unfold runT at h
    unfold topRun
    cases he : through t with
    | true => rw [he] at h; cases h; rfl
    | false =>
      rw [he] at h
      cases hk : stepOk n₀ ann t with
      | false => rw [hk] at h; cases h
      | true =>
        rw [hk] at h
        cases hs : stepT (denote tb) p w s t with
        | none => rw [hs] at h; cases h
        | some r => obtain ⟨s₂, t₂⟩ := r; rw [hs] at h; dsimp only; rw [stepT_spec hs]; exact runT_of n s₂ s' t₂ h
noncomputable def topT (tb : String → Option Builtin) (p : Program) (w : World) (N : Nat) (s₀ : Shared) : Option Shared :=
  match s₀.heap.isNs mainGlobals && s₀.gens.size == 0 with
  | true => match grow s₀.heap.objs.toList .nil 0 with
    | some (T, n) => match runT through (stepOk s₀.heap.objs.size (s₀.heap.nsMap mainGlobals (Str.ofString "__annotations__"))) (stepT (denote tb) p w) N ⟨T, n, s₀.heap.life, s₀.gens, s₀.drawn, s₀.toks, s₀.os⟩ (topStub p) with
      | some s₁ => match staticsOk (importedModules p.main.body) s₀.heap s₁.abs.heap && namesBound p s₁.abs.heap && gensDone s₁.abs && laidKept s₀.heap s₁.abs.heap with
        | true => some s₁.abs
        | false => none
      | none => none
    | none => none
  | false => none
theorem topT_of {tb : String → Option Builtin} {p : Program} {w : World} {N : Nat} {s₀ s : Shared} (h : topT tb p w N s₀ = some s) : topFrom tb p w N s₀ = some s := by
  unfold topT at h
  unfold topFrom
  split at h
  · rename_i e
    rw [e]
    split at h
    · rename_i T n hg
      have hh := grow_of s₀.heap.life _ _ _ _ hg
      split at h
      · rename_i s₁ hr
        have hr := runT_of _ _ _ _ hr
        have hs : SharedT.abs ⟨T, n, s₀.heap.life, s₀.gens, s₀.drawn, s₀.toks, s₀.os⟩ = s₀ := by
          obtain ⟨⟨os, l⟩, _, _, _, _⟩ := s₀
          show Shared.mk (absHeap T n l) _ _ _ _ = _
          dsimp only at hh
          rw [hh]
          congr 2
          apply Array.ext'
          simp [absHeap, BT.list]
        rw [hs] at hr
        dsimp only
        rw [hr]
        exact h
      · cases h
    · cases h
  · cases h
theorem LeftO.ofTree {p q : Program} {loose : List Str} {Xt : Shared → Bool} {α : Type} {Yf : Shared → α} {Ya : World → α} {N : Nat} {g0 : Bool}
    (h : ∀ w, ((fencedOpening treeTable p w N).bind (topT treeTable p w N)).map (fun s => (openSeen q loose (importedModules p.main.body) Xt g0 s, Yf s)) = some (openGood q loose, Ya w)) : LeftO p q loose Xt Yf Ya N g0 := fun w => by
  obtain ⟨s, hs, e⟩ := Option.map_eq_some_iff.mp (h w)
  obtain ⟨s₀, h₀, h₁⟩ := Option.bind_eq_some_iff.mp hs
  unfold openEnds
  rw [h₀]
  show (topFrom treeTable p w N s₀).map _ = _
  rw [topT_of h₁]
  exact congrArg some e
set_option maxHeartbeats 8000000 in
theorem said : OpenLaw.wellSaid PySem.Challenge.rw_on0310_01 = true := by
  rw [PySem.W.Fast.te9446332074065402090]
  unfold PySem.W.Fast.tw9446332074065402090 PySem.W.Fast.tw17960256430627541270 PySem.W.Fast.tw2436336058641802641 PySem.W.Fast.tw12908688711261696721
  repeat' with_reducible refine look_both ?_ ?_
  all_goals as_aux_lemma => kernel_rfl
/-- the head with the whole program as its view -/
theorem headAt (H : Hook) {d : DefRec} {kwd : List (Str × PySem.Expr)}
    (left : LeftO PySem.Challenge.rw_on0310_01.row.prog PySem.Challenge.pw_on0310_01 [] (fun s => xlAt PySem.Challenge.pw_on0310_01 [] s && recOk (RowW.records PySem.Challenge.rw_on0310_01.row.toRowW) s) H.obs H.val 4070)
    (hdef : defOf PySem.Challenge.pw_on0310_01 PySem.Challenge.rw_on0310_01.row.name = some (d, kwd)) (hp : PySem.Challenge.rw_on0310_01.row.prog.theDef PySem.Challenge.rw_on0310_01.row.name = some (d.params, d.body, d.scope)) (hk : kwWritten? d.params.kwonlyargs d.params.kw_defaults = some kwd)
    (hw : PySem.Challenge.rw_on0310_01.row.toRowW.promised)
    (call : WalkO PySem.Challenge.pw_on0310_01 [] (XL PySem.Challenge.pw_on0310_01 []) H.says PySem.Challenge.rw_on0310_01.row.toRowW d kwd fun f vs => PySem.call f vs) : PySem.Challenge.rw_on0310_01.row.Holds :=
  holds_open left H.of H.keeps (fun s e => xl_of s (Bool.and_eq_true_iff.mp e).1) XL.keeps hdef hp hk (fun s e => recFacts_of (Bool.and_eq_true_iff.mp e).2) rfl (row_said said) (by decide +kernel) ⟨rfl, rfl, rfl, rfl, rfl, by decide +kernel⟩ hw call
theorem lines_Top2 : True := by
  k_with_none
  (k_with "m o_law" => (refine holds_law said fun _ => ?_))
  (k_with "m left" => (refine LeftO.ofTree fun _ => ?_; unfold fencedOpening topT; rw [PySem.W.Fast.te14364793385576792824, PySem.W.Fast.te10274390034422433532, PySem.W.Fast.te1435165496053646825, PySem.W.Fast.te14289696077712309145, PySem.W.Fast.te10156331382660048174, PySem.W.Fast.te11892475500146522536, PySem.W.Fast.te6613529449190102663, PySem.W.Fast.te4187177175401517315]; kernel_rfl))
  trivial
local macro_rules | `(tactic| o_law) => `(tactic| k_extra "m o_law")
local macro_rules | `(tactic| o_head $H) => `(tactic| refine headAt $H (by k_extra "m left") rfl rfl rfl ?hw ?hc)
set_option maxHeartbeats 8000000 in
open_top hd for PySem.Challenge.rw_on0310_01
theorem walkOff : True := by
  w_top off
  trivial
local macro_rules | `(tactic| walk_at $s:str) => `(tactic| k_extra $s)
noncomputable abbrev arC (dp un : Nat) : Around := { handled := none, depth := dp, frames := some [], guards := some [], units := un }
abbrev arT (dp un : Nat) (gd : Option (List Code)) (env : Env) (outer : List Env) : Around := { handled := none, depth := dp, frames := some (env :: outer), guards := gd, units := un }

/-- a goal as a letter: what is opened under it does not repeat it -/
theorem letter {P : Prop} (h : ∀ Q : Prop, (P → Q) → Q) : P := h P id
/-- a block of one statement -/
theorem execs_one {prog : Program} {w : World} {A : Around} {env : Env} {st : Stmt} {Q : Flow → Shared → Prop} {E : Value → Shared → Prop} {s : Shared} (h : wpAny (model prog w) A (exec st env) Q E s) : wpAny (model prog w) A (execs [st] env) Q E s :=
  wpAny_execs_cons (wpAny_mono h (fun f s' h => by cases f <;> first | exact wpAny_execs_nil h | exact h) fun _ _ e => e)

/-- what stands behind a statement, as a letter -/
noncomputable def Behind {α : Type} (Q : α → Shared → Prop) (f : α) (s : Shared) : Prop := Q f s
noncomputable def BehindE (E : Value → Shared → Prop) (e : Value) (s : Shared) : Prop := E e s
theorem Behind.go {α : Type} {Q P : α → Shared → Prop} {f : α} {s : Shared} (h : ∀ f s', P f s' → Behind Q f s') (p : P f s) : Behind Q f s := h f s p
theorem BehindE.go {E P : Value → Shared → Prop} {e : Value} {s : Shared} (h : ∀ e s', P e s' → BehindE E e s') (p : P e s) : BehindE E e s := h e s p
theorem Q_letter {α : Type} {M : Model} {A : Around} {t : Sem α} {Q : α → Shared → Prop} {E : Value → Shared → Prop} {s : Shared} (h : ∀ Q' : α → Shared → Prop, (∀ f s', Q f s' → Behind Q' f s') → wpAny M A t (Behind Q') E s) : wpAny M A t Q E s :=
  h Q fun _ _ q => q
theorem QE_letter {prog : Program} {w : World} {A : Around} {env : Env} {body : List Stmt} {Q : Flow → Shared → Prop} {E : Value → Shared → Prop} {s : Shared} (p : PassesOwn (model prog w) A env E)
    (h : ∀ (Q' : Flow → Shared → Prop) (E' : Value → Shared → Prop), (∀ f s', Q f s' → Behind Q' f s') → (∀ e s', E e s' → BehindE E' e s') → PassesOwn (model prog w) A env (BehindE E') → wpAny (model prog w) A (execs body env) (Behind Q') (BehindE E') s) : wpAny (model prog w) A (execs body env) Q E s :=
  h Q E (fun _ _ q => q) (fun _ _ q => q) p
/-- the count of tokens as a letter (that «generalize» brings does not stay in the proof) -/
theorem tok_letter {α : Type} {M : Model} {A : Around} {t : Sem α} {Q : α → Shared → Prop} {E : Value → Shared → Prop} {h : Heap} {g : Array GenState} {d : Drawn} {o : OsState} {k : Nat} (x : ∀ k, wpAny M A t Q E { heap := h, gens := g, drawn := d, toks := k, os := o }) : wpAny M A t Q E { heap := h, gens := g, drawn := d, toks := k, os := o } := x k
theorem gen_letter {α : Type} {P : Prop} (a : α) (h : ∀ x, x = a → P) : P := h a rfl
theorem execs_cons_L {prog : Program} {w : World} {A : Around} {env : Env} {st : Stmt} {rest : List Stmt} {Q : Flow → Shared → Prop} {E : Value → Shared → Prop} {s : Shared}
    (h : ∀ Q' : Flow → Shared → Prop, (∀ f s', (match f with | .next => wpAny (model prog w) A (execs rest env) Q E s' | f => Q f s') → Behind Q' f s') → wpAny (model prog w) A (exec st env) (Behind Q') E s) : wpAny (model prog w) A (execs (st :: rest) env) Q E s :=
  wpAny_execs_cons (h _ fun _ _ q => q)

noncomputable def Kept (as : List Addr) (h h' : Heap) : Prop := ∀ b o, b ∉ as → h.get? b = some o → h'.get? b = some o
theorem Kept.refl (as : List Addr) (h : Heap) : Kept as h h := fun _ _ _ e => e
theorem Kept.mono {as bs : List Addr} {h h' : Heap} (k : Kept as h h') (hs : ∀ a ∈ as, a ∈ bs) : Kept bs h h' := fun b o hb e => k b o (fun q => hb (hs b q)) e
theorem Kept.trans {as : List Addr} {h h' h'' : Heap} (k : Kept as h h') (k' : Kept as h' h'') : Kept as h h'' := fun b o hb e => k' b o hb (k b o hb e)

/-- what a heap has beyond the base, the frame and a written ledger -/
noncomputable def restOf (g h : Heap) (L : Addr) (as : List Addr) : List (Addr × Obj) :=
  (List.range h.objs.size).filterMap fun a => if a = L ∨ a ∈ as ∨ (g.get? a).isSome = true then none else (h.get? a).map fun o => (a, o)
theorem mem_restOf {g h : Heap} {L : Addr} {as : List Addr} {p : Addr × Obj} : p ∈ restOf g h L as ↔ h.get? p.1 = some p.2 ∧ p.1 ≠ L ∧ p.1 ∉ as ∧ g.get? p.1 = none := by
  obtain ⟨a, o⟩ := p
  simp only [restOf, List.mem_filterMap, List.mem_range]
  constructor
  · rintro ⟨b, hb, e⟩
    split at e
    · cases e
    · rename_i hn
      cases hq : h.get? b with
      | none => rw [hq] at e; cases e
      | some o' =>
        rw [hq] at e
        simp only [Option.map_some, Option.some.injEq, Prod.mk.injEq] at e
        obtain ⟨rfl, rfl⟩ := e
        refine ⟨hq, fun q => hn (.inl q), fun q => hn (.inr (.inl q)), ?_⟩
        cases hg : g.get? b with
        | none => rfl
        | some _ => exact absurd (.inr (.inr (by rw [hg]; rfl))) hn
  · rintro ⟨h1, h2, h3, h4⟩
    refine ⟨a, Heap.lt_size h1, ?_⟩
    rw [if_neg (by rw [h4]; simp [h2, h3]), h1]; rfl
theorem rest_news {g h : Heap} {L : Addr} {led : List (Addr × Obj)} (N : News g L h led) : News g L h (led ++ restOf g h L (led.map (·.1))) := fun p hp => by
  rcases List.mem_append.mp hp with hp | hp
  · exact N p hp
  · obtain ⟨h1, h2, _, h4⟩ := mem_restOf.mp hp
    exact ⟨h1, h2, h4⟩
theorem rest_off {g h : Heap} {L : Addr} {as : List Addr} : OwnOff (restOf g h L as) as := fun p hp b hb e => (mem_restOf.mp hp).2.2.1 (e ▸ hb)
theorem rest_kept {g h h' : Heap} {L : Addr} {as : List Addr} {m m' : Str → Option Value} {news' : List (Addr × Obj)} (F : Fr g L h m) (F' : Fr g L h' m') (N' : News g L h' news') (hs : ∀ p ∈ restOf g h L as, p ∈ news') : Kept (L :: as) h h' := fun b o hb e => by
  cases hg : g.get? b with
  | some o' =>
    have := F.keep b o' hg
    rw [e] at this
    cases this
    exact F'.keep b _ hg
  | none =>
    have hm : (b, o) ∈ restOf g h L as := mem_restOf.mpr ⟨e, fun q => hb (by rw [show b = L from q]; exact List.mem_cons_self), fun q => hb (List.mem_cons_of_mem _ q), hg⟩
    exact (N' _ (hs _ hm)).1

section
variable {prog : Program} {w : World} {A₀ A : Around} {s : Shared} {base h₀ : Heap} {outer : List Env} {L : Addr} {m mg mb : Str → Option Value} {env : Env} {news : List (Addr × Obj)} {K : Frag} {p : Program} {loose : List Str} {mean : ExcName → Option Value}
  {R : Result → Shared → Prop} {name qual : Str} {params : Arguments} {body : List Stmt} {scope : Scope} {dV kV doc pm cdv ct oc : Value} {an od : Option Addr} {osl : Array (Option Value)} {f : Addr} {args : Args} {binds : List (Str × Value)}
/-- into a def: the base is all that stands but the ledger handed over -/
theorem enter (B : Below A₀ base outer h₀) (F : Fr h₀ L s.heap m) (X₀ : K.In h₀) (T : Top p loose mean mg mb h₀) (N : News h₀ L s.heap news)
    (hA : A.frames = some (env :: outer)) (hf : env.frame = some L) (hke : env.scope.kind = .function)
    (ho : K.lookup f = some ⟨oc, od, .func (fnOf name qual params body scope dV kV doc pm an cdv ct), osl⟩) (hcd : codeIn K cdv qual = true) (hroom : A.depth < recursionLimit)
    (hbind : BindsTo s (fnOf name qual params body scope dV kV doc pm an cdv ct) args binds) (hloc : ∀ y ∈ binds, scope.names.lookup y.1 = some .local)
    (h : ∀ g L' h₁, (∀ b o, b ∉ news.map (·.1) → s.heap.get? b = some o → g.get? b = some o) → (∀ b o, s.heap.get? b = some o → h₁.get? b = some o) → s.heap.get? L' = none →
      Fr g L' h₁ (fun y => binds.reverse.lookup y) → News g L' h₁ news → Below A base (env :: outer) g → K.In g → Top p loose mean mg mb g →
      wpAny (model prog w) (A.deeper (envOf qual scope L' f cdv)) (execs body (envOf qual scope L' f cdv))
        (fun fl s' => R (.ok (.ret (match fl with | .ret v => v | _ => .none))) s')
        (fun e s' => wpAny (model prog w) (A.deeper (envOf qual scope L' f cdv)) (leaving (envOf qual scope L' f cdv) e) (fun _ s'' => R (.error e) s'') (fun e' s'' => R (.error e') s'') s')
        { s with heap := h₁, toks := s.toks + binds.length })
    (hco : scope.isCoroutine = false) (hgen : scope.isGenerator = false) (hk : scope.kind = .function) (hcell : ∀ x ∈ scope.names, x.2 ≠ .cell) : codeAny (model prog w) A (.call (.ref f) args) R s := by
  obtain ⟨FG, BG, st, lv⟩ := groundX (R := R) B F N hA hf hke
  refine codeAny_call_def (fd := fnOf name qual params body scope dV kV doc pm an cdv ct) (body := body) (binds := binds) hroom ((X₀.keeps F.keep) _ _ ho) rfl (T.nolimit.keeps F.keep) (codeRec_of (X₀.keeps F.keep) hcd) rfl hbind hcell hloc (fun h₁ hns hk₁ => ?_) hco hgen hk
  refine h _ s.heap.objs.size h₁ (fun b o hb e => hideAll_get _ e hb) hk₁ ?_ ⟨hns, fun b o e => hk₁ b o (of_hideAll _ e), Nat.le_of_eq (hideAll_size _ _)⟩
    (fun p hp => ⟨hk₁ _ _ (N p hp).1, Nat.ne_of_lt (Heap.lt_size (N p hp).1), hideAll_none _ (List.mem_map_of_mem hp)⟩) BG (X₀.keeps st) (T.keeps st)
  cases q : s.heap.get? s.heap.objs.size with
  | none => rfl
  | some o => exact absurd (Heap.lt_size q) (Nat.lt_irrefl _)
end

theorem News.after {h₀ h h' : Heap} {L : Addr} {m : Str → Option Value} {news news' : List (Addr × Obj)} {as : List Addr} (F : Fr h₀ L h m) (N : News h₀ L h news) (k : Kept as h h')
    (hn : ∀ p ∈ news', (p ∈ news ∧ p.1 ∉ as) ∨ (h'.get? p.1 = some p.2 ∧ ((∃ o, (p.1, o) ∈ news) ∨ h.get? p.1 = none))) : News h₀ L h' news' := fun p hp => by
  rcases hn p hp with ⟨h1, h2⟩ | ⟨h1, h2⟩
  · exact ⟨k _ _ h2 (N p h1).1, (N p h1).2⟩
  · refine ⟨h1, ?_⟩
    rcases h2 with ⟨o, ho⟩ | h2
    · exact (N _ ho).2
    · obtain ⟨oL, _, _, hL, _⟩ := F.ns
      refine ⟨fun q => ?_, ?_⟩
      · rw [q, hL] at h2; cases h2
      · cases q : h₀.get? p.1 with
        | none => rfl
        | some o => rw [F.keep _ _ q] at h2; cases h2
theorem Fr.after {h₀ h h' : Heap} {L : Addr} {m : Str → Option Value} {as : List Addr} (F : Fr h₀ L h m) (k : Kept as h h') (ha : ∀ a ∈ as, a ≠ L ∧ h₀.get? a = none) : Fr h₀ L h' m := by
  obtain ⟨oL, es, ep, hL, r⟩ := F.ns
  refine ⟨⟨oL, es, ep, k _ _ (fun q => (ha _ q).1 rfl) hL, r⟩, fun b o e => k b o (fun q => ?_) (F.keep b o e), F.above⟩
  rw [(ha _ q).2] at e; cases e
/-- one object of the ledger turned -/
theorem News.upd {h₀ h h' : Heap} {L d : Addr} {o o' : Obj} {m : Str → Option Value} {news : List (Addr × Obj)} {g : Obj → List (Addr × Obj)} (F : Fr h₀ L h m) (N : News h₀ L h news) (U : UpdF d o news g) (k : Kept [d] h h') (ho : h'.get? d = some o') :
    Fr h₀ L h' m ∧ News h₀ L h' (g o') := by
  obtain ⟨pre, post, rfl, hg, a, b⟩ := U.split
  have hd : (d, o) ∈ pre ++ (d, o) :: post := List.mem_append.mpr (.inr (.head _))
  refine ⟨Fr.after F k fun c hc => ?_, ?_⟩
  · rw [List.mem_singleton.mp hc]; exact (N _ hd).2
  · rw [hg]
    refine News.after F N k fun p hp => ?_
    rcases List.mem_append.mp hp with hp | hp
    · exact .inl ⟨List.mem_append.mpr (.inl hp), fun q => a p hp (List.mem_singleton.mp q)⟩
    · rcases List.mem_cons.mp hp with rfl | hp
      · exact .inr ⟨ho, .inl ⟨o, hd⟩⟩
      · exact .inl ⟨List.mem_append.mpr (.inr (.tail _ hp)), fun q => b p hp (List.mem_singleton.mp q)⟩
theorem kept_of {g h h' : Heap} {L : Addr} {m : Str → Option Value} {as : List Addr} (hg : ∀ b o, b ∉ as → h.get? b = some o → g.get? b = some o) (F : Fr g L h' m) : Kept as h h' := fun b o hb e => F.keep _ _ (hg b o hb e)
theorem isList_into {h g : Heap} {as : List Addr} {l : Addr} {vs : Array Value} (hg : ∀ b o, b ∉ as → h.get? b = some o → g.get? b = some o) (hl : h.IsList l vs) (hn : l ∉ as) : g.IsList l vs := by
  obtain ⟨o, ho, r⟩ := hl
  exact ⟨o, hg _ _ hn ho, r⟩
theorem isList_kept {h h' : Heap} {as : List Addr} {l : Addr} {vs : Array Value} (k : Kept as h h') (hl : h.IsList l vs) (hn : l ∉ as) : h'.IsList l vs := by
  obtain ⟨o, ho, r⟩ := hl
  exact ⟨o, k _ _ hn ho, r⟩
theorem UpdF.one {h₀ h : Heap} {L d : Addr} {o : Obj} {news : List (Addr × Obj)} {g : Obj → List (Addr × Obj)} (N : News h₀ L h news) (U : UpdF d o news g) : News h₀ L h [(d, o)] := by
  obtain ⟨pre, post, rfl, hg, a, b⟩ := U.split
  intro p hp
  rw [List.mem_singleton.mp hp]
  exact N _ (List.mem_append.mpr (.inr (.head _)))
/-- a tuple of written texts -/
inductive StrsOf : List PySem.Expr → List Str → Prop
  | nil : StrsOf [] []
  | cons {es : List PySem.Expr} {bs : List Str} (sb9 : Str) (sk9 : Nat) (sp9 : Pos) : StrsOf es bs → StrsOf (.Constant (.str sb9) sk9 sp9 :: es) (sb9 :: bs)
theorem in_strs {bs : List Str} {nm : Str} : (bs.any fun b => b == nm) = decide (nm ∈ bs) := by
  induction bs with
  | nil => rfl
  | cons b bs ih =>
    rw [List.any_cons, ih]
    by_cases h : b = nm
    · subst h; simp
    · have h2 : ¬ nm = b := fun e => h e.symm
      by_cases h3 : nm ∈ bs <;> simp [h, h2, h3]
section
variable {prog : Program} {w : World} {A : Around} {E : Value → Shared → Prop} {s : Shared} {h₀ : Heap} {L a : Addr} {m : Str → Option Value} {news : List (Addr × Obj)} {cn : Str} {cs : Scope} {ccd : Value} {cl : List (Str × Addr)}
  {x nm b : Str} {t : Tok} {px pk pc pos tp : Pos} {k kt : Nat} {elts : List PySem.Expr} {bs : List Str} {body orelse rest : List Stmt}
theorem test_eq {whole : Sem Value} {Q : Bool → Shared → Prop} (F : Fr h₀ L s.heap m) (hv : m x = some (.str nm t)) (h : Q (nm == b) { s with toks := s.toks + 1 })
    (hk : cs.kind = .function := by rfl) (hx : (envX cn cs L a ccd cl).kindOf x = some .local := by rfl) (hd : (x == ("__debug__" : Str)) = false := by decide) :
    wpAny (model prog w) A (isTrue (.Compare (.Name x px) [.Eq] [.Constant (.str b) k pk] pc) (envX cn cs L a ccd cl) whole) Q E s :=
  wpAny_isTrue_Compare1 (nameX_L F hv (Constant_str (eq_str (wpAny_truthy_bool h))) hk hx hd) (by with_unfolding_all rfl)
theorem test_ne {whole : Sem Value} {Q : Bool → Shared → Prop} (F : Fr h₀ L s.heap m) (hv : m x = some (.str nm t)) (h : Q (nm != b) { s with toks := s.toks + 1 })
    (hk : cs.kind = .function := by rfl) (hx : (envX cn cs L a ccd cl).kindOf x = some .local := by rfl) (hd : (x == ("__debug__" : Str)) = false := by decide) :
    wpAny (model prog w) A (isTrue (.Compare (.Name x px) [.NotEq] [.Constant (.str b) k pk] pc) (envX cn cs L a ccd cl) whole) Q E s :=
  wpAny_isTrue_Compare1 (nameX_L F hv (Constant_str (ne_str (wpAny_truthy_bool h))) hk hx hd) (by with_unfolding_all rfl)
theorem if_eqT {Q : Flow → Shared → Prop} (F : Fr h₀ L s.heap m) (hv : m x = some (.str nm t)) (e : nm = b) (h : wpAny (model prog w) A (execs body (envX cn cs L a ccd cl)) Q E { s with toks := s.toks + 1 })
    (hk : cs.kind = .function := by rfl) (hx : (envX cn cs L a ccd cl).kindOf x = some .local := by rfl) (hd : (x == ("__debug__" : Str)) = false := by decide) :
    wpAny (model prog w) A (exec (.If (.Compare (.Name x px) [.Eq] [.Constant (.str b) k pk] pc) body orelse pos) (envX cn cs L a ccd cl)) Q E s :=
  wpAny_If (test_eq F hv (by rw [show (nm == b) = true from by simpa using e, if_pos rfl]; exact h) hk hx hd)
theorem if_eqF {Q : Flow → Shared → Prop} (F : Fr h₀ L s.heap m) (hv : m x = some (.str nm t)) (e : nm ≠ b) (h : wpAny (model prog w) A (execs orelse (envX cn cs L a ccd cl)) Q E { s with toks := s.toks + 1 })
    (hk : cs.kind = .function := by rfl) (hx : (envX cn cs L a ccd cl).kindOf x = some .local := by rfl) (hd : (x == ("__debug__" : Str)) = false := by decide) :
    wpAny (model prog w) A (exec (.If (.Compare (.Name x px) [.Eq] [.Constant (.str b) k pk] pc) body orelse pos) (envX cn cs L a ccd cl)) Q E s :=
  wpAny_If (test_eq F hv (by rw [show (nm == b) = false from by simpa using e, if_neg (by decide)]; exact h) hk hx hd)
theorem if_eqB {Q : Flow → Shared → Prop} (F : Fr h₀ L s.heap m) (hv : m x = some (.str nm t)) (h1 : nm = b → wpAny (model prog w) A (execs body (envX cn cs L a ccd cl)) Q E { s with toks := s.toks + 1 }) (h2 : nm ≠ b → wpAny (model prog w) A (execs orelse (envX cn cs L a ccd cl)) Q E { s with toks := s.toks + 1 })
    (hk : cs.kind = .function := by rfl) (hx : (envX cn cs L a ccd cl).kindOf x = some .local := by rfl) (hd : (x == ("__debug__" : Str)) = false := by decide) :
    wpAny (model prog w) A (exec (.If (.Compare (.Name x px) [.Eq] [.Constant (.str b) k pk] pc) body orelse pos) (envX cn cs L a ccd cl)) Q E s := by
  by_cases e : nm = b
  · exact if_eqT F hv e (h1 e) hk hx hd
  · exact if_eqF F hv e (h2 e) hk hx hd
theorem if_neT {Q : Flow → Shared → Prop} (F : Fr h₀ L s.heap m) (hv : m x = some (.str nm t)) (e : nm ≠ b) (h : wpAny (model prog w) A (execs body (envX cn cs L a ccd cl)) Q E { s with toks := s.toks + 1 })
    (hk : cs.kind = .function := by rfl) (hx : (envX cn cs L a ccd cl).kindOf x = some .local := by rfl) (hd : (x == ("__debug__" : Str)) = false := by decide) :
    wpAny (model prog w) A (exec (.If (.Compare (.Name x px) [.NotEq] [.Constant (.str b) k pk] pc) body orelse pos) (envX cn cs L a ccd cl)) Q E s :=
  wpAny_If (test_ne F hv (by rw [show (nm != b) = true from by simpa using e, if_pos rfl]; exact h) hk hx hd)
theorem if_neF {Q : Flow → Shared → Prop} (F : Fr h₀ L s.heap m) (hv : m x = some (.str nm t)) (e : nm = b) (h : wpAny (model prog w) A (execs orelse (envX cn cs L a ccd cl)) Q E { s with toks := s.toks + 1 })
    (hk : cs.kind = .function := by rfl) (hx : (envX cn cs L a ccd cl).kindOf x = some .local := by rfl) (hd : (x == ("__debug__" : Str)) = false := by decide) :
    wpAny (model prog w) A (exec (.If (.Compare (.Name x px) [.NotEq] [.Constant (.str b) k pk] pc) body orelse pos) (envX cn cs L a ccd cl)) Q E s :=
  wpAny_If (test_ne F hv (by rw [show (nm != b) = false from by simpa using e, if_neg (by decide)]; exact h) hk hx hd)
theorem strs_spliced {env : Env} {pos : Pos} {elts : List PySem.Expr} {bs : List Str} (hl : StrsOf elts bs) : ∀ (s : Shared) (Q : List Value → Shared → Prop),
    (∀ vs tk, StrsAre vs bs → Q vs { s with toks := tk }) → wpAny (model prog w) A (spliced (backTo pos (starEach elts env))) Q E s := by
  induction hl with
  | nil => exact fun s Q h => args_nil (h [] s.toks .nil)
  | cons b k p _ ih => exact fun s Q h => args_cons (Constant_str (ih _ _ fun vs tk hvs => h _ tk (.cons _ _ hvs))) rfl
theorem strs_any {vs : List Value} {bs : List Str} (h : StrsAre vs bs) (nm : Str) : vs.toArray.any (fun v => match v with | .str y _ => y == nm | _ => false) = decide (nm ∈ bs) := by
  rw [← in_strs, List.any_toArray]
  induction h with
  | nil => rfl
  | cons x t r ih => rw [List.any_cons, List.any_cons, ih]
theorem test_in {whole : Sem Value} {Q : Bool → Shared → Prop} (F : Fr h₀ L s.heap m) (N : News h₀ L s.heap news) (hv : m x = some (.str nm t)) (hl : StrsOf elts bs) (hz : bs.length ≤ 100)
    (h : ∀ h' tk, Fr h₀ L h' m → News h₀ L h' news → Q (decide (nm ∈ bs)) { s with heap := h', toks := tk })
    (hk : cs.kind = .function := by rfl) (hx : (envX cn cs L a ccd cl).kindOf x = some .local := by rfl) (hd : (x == ("__debug__" : Str)) = false := by decide) :
    wpAny (model prog w) A (isTrue (.Compare (.Name x px) [.In] [.Tuple elts kt tp] pc) (envX cn cs L a ccd cl) whole) Q E s := by
  refine wpAny_isTrue_Compare1 (nameX_L F hv (Tuple_ (strs_spliced hl _ _ fun vs tk hvs => ?_)) hk hx hd) (by with_unfolding_all rfl)
  refine newTuple_N (s := { s with toks := tk }) F N (fun h' F' N' => ?_) (by rw [sizeLine_eq, StrsAre.length hvs]; omega)
  have ht : IsTup h' s.heap.objs.size vs.toArray := News.isTup N' (.head _)
  refine SeqAt.in_tupleAt (s := { s with heap := h', toks := tk }) (fun v => match v with | .str y _ => y == nm | _ => false) ht (fun y hy => ?_) ?_
  · have hy' : y ∈ vs := by simpa using hy
    clear hy
    obtain ⟨z, u, rfl⟩ : ∃ z u, y = .str z u := by
      clear ht h N' F' hl hz
      induction hvs with
      | nil => cases hy'
      | cons z u _ ih =>
        rcases List.mem_cons.mp hy' with rfl | q
        · exact ⟨_, _, rfl⟩
        · exact ih q
    exact SeqAt.EqAt.str_str (A := A.in1) _ _ _ _
  · rw [strs_any hvs]
    exact wpAny_truthy_bool (h h' tk F' fun p hp => N' p (.tail _ hp))
theorem if_inT {Q : Flow → Shared → Prop} (F : Fr h₀ L s.heap m) (N : News h₀ L s.heap news) (hv : m x = some (.str nm t)) (hl : StrsOf elts bs) (hz : bs.length ≤ 100) (e : nm ∈ bs)
    (h : ∀ h' tk, Fr h₀ L h' m → News h₀ L h' news → wpAny (model prog w) A (execs body (envX cn cs L a ccd cl)) Q E { s with heap := h', toks := tk })
    (hk : cs.kind = .function := by rfl) (hx : (envX cn cs L a ccd cl).kindOf x = some .local := by rfl) (hd : (x == ("__debug__" : Str)) = false := by decide) :
    wpAny (model prog w) A (exec (.If (.Compare (.Name x px) [.In] [.Tuple elts kt tp] pc) body orelse pos) (envX cn cs L a ccd cl)) Q E s :=
  wpAny_If (test_in F N hv hl hz (fun h' tk F' N' => by rw [decide_eq_true e, if_pos rfl]; exact h h' tk F' N') hk hx hd)
theorem if_inF {Q : Flow → Shared → Prop} (F : Fr h₀ L s.heap m) (N : News h₀ L s.heap news) (hv : m x = some (.str nm t)) (hl : StrsOf elts bs) (hz : bs.length ≤ 100) (e : nm ∉ bs)
    (h : ∀ h' tk, Fr h₀ L h' m → News h₀ L h' news → wpAny (model prog w) A (execs orelse (envX cn cs L a ccd cl)) Q E { s with heap := h', toks := tk })
    (hk : cs.kind = .function := by rfl) (hx : (envX cn cs L a ccd cl).kindOf x = some .local := by rfl) (hd : (x == ("__debug__" : Str)) = false := by decide) :
    wpAny (model prog w) A (exec (.If (.Compare (.Name x px) [.In] [.Tuple elts kt tp] pc) body orelse pos) (envX cn cs L a ccd cl)) Q E s :=
  wpAny_If (test_in F N hv hl hz (fun h' tk F' N' => by rw [decide_eq_false e, if_neg (by decide)]; exact h h' tk F' N') hk hx hd)
theorem if_inB {Q : Flow → Shared → Prop} (F : Fr h₀ L s.heap m) (N : News h₀ L s.heap news) (hv : m x = some (.str nm t)) (hl : StrsOf elts bs) (hz : bs.length ≤ 100)
    (h : ∀ h' tk, Fr h₀ L h' m → News h₀ L h' news → (nm ∈ bs → wpAny (model prog w) A (execs body (envX cn cs L a ccd cl)) Q E { s with heap := h', toks := tk }) ∧ (nm ∉ bs → wpAny (model prog w) A (execs orelse (envX cn cs L a ccd cl)) Q E { s with heap := h', toks := tk }))
    (hk : cs.kind = .function := by rfl) (hx : (envX cn cs L a ccd cl).kindOf x = some .local := by rfl) (hd : (x == ("__debug__" : Str)) = false := by decide) :
    wpAny (model prog w) A (exec (.If (.Compare (.Name x px) [.In] [.Tuple elts kt tp] pc) body orelse pos) (envX cn cs L a ccd cl)) Q E s := by
  by_cases e : nm ∈ bs
  · exact if_inT F N hv hl hz e (fun h' tk F' N' => (h h' tk F' N').1 e) hk hx hd
  · exact if_inF F N hv hl hz e (fun h' tk F' N' => (h h' tk F' N').2 e) hk hx hd
end
/-- a goal that the walk does not open -/
noncomputable def Held (P : Prop) : Prop := P
theorem Held.out {P : Prop} (h : Held P) : P := h
section
variable {prog : Program} {w : World} {A : Around} {E : Value → Shared → Prop} {s : Shared} {h₀ : Heap} {L a : Addr} {m : Str → Option Value} {news : List (Addr × Obj)} {cn : Str} {cs : Scope} {ccd : Value} {cl : List (Str × Addr)}
  {x y : Str} {px py pos : Pos} {k : Nat} {t : Addr} {u v : Value}
/-- x, y = (u, v), both of the frame -/
theorem pair_L {Q : Unit → Shared → Prop} (F : Fr h₀ L s.heap m) (N : News h₀ L s.heap news) (ht : IsTup s.heap t [u, v].toArray) (hh : A.handled = none)
    (h : ∀ h' tk, Fr h₀ L h' (fun z => if z = y then some v else if z = x then some u else m z) → News h₀ L h' news → Q () { s with heap := h', toks := tk })
    (hk : cs.kind = .function := by rfl) (hx : (envX cn cs L a ccd cl).kindOf x = some .local := by rfl) (hy : (envX cn cs L a ccd cl).kindOf y = some .local := by rfl) :
    wpAny (model prog w) A (assign (.Tuple [.Name x px, .Name y py] k pos) (envX cn cs L a ccd cl) (.ref t)) Q E s :=
  unpackN_ F N ht hh rfl rfl fun h1 F1 N1 => assignInOrder_cons (assign_Name (storeX_L (s := { s with heap := h1 }) F1 N1 (fun h2 F2 N2 => assignInOrder_cons (assign_Name (storeX_L (s := { s with heap := h2, toks := s.toks + 1 }) F2 N2 (fun h3 F3 N3 => wpAny_pure (h h3 _ F3 N3)) hk hy))) hk hx))
/-- in a comprehension's block -/
theorem pair_C {scope : Scope} {cc : List (Str × Addr)} {C : Addr} {env : Env} {Q : Unit → Shared → Prop} (hns : s.heap.Ns C m) (ht : IsTup s.heap t [u, v].toArray) (hh : A.handled = none) (hxy : y ≠ x)
    (h : ∀ h' tk oC m', h'.get? C = some oC → LCg.NsObj oC m' → m' x = some u → m' y = some v → Kept [C] s.heap h' → Q () { s with heap := h', toks := tk })
    (hk : (compEnvC scope cc C env).scope.kind = .function := by rfl) (hx : (compEnvC scope cc C env).kindOf x = some .local := by rfl) (hy : (compEnvC scope cc C env).kindOf y = some .local := by rfl) :
    wpAny (model prog w) A (assign (.Tuple [.Name x px, .Name y py] k pos) (compEnvC scope cc C env) (.ref t)) Q E s := by
  have hp : ((compEnvC scope cc C env).scope.kind == .class || ((compEnvC scope cc C env).scope.kind == .module && (compEnvC scope cc C env).locals != (compEnvC scope cc C env).globals)) = false := by rw [hk]; rfl
  refine assign_Tuple_tuple hh ht rfl rfl fun h1 e1 => ?_
  have hlt : C ≠ s.heap.objs.size := by obtain ⟨o, _, _, e, _⟩ := hns; exact Nat.ne_of_lt (Heap.lt_size e)
  refine assignInOrder_cons (assign_Name (wpAny_storeName_local hx (hns.at' fun o e => e1 C o hlt e) (fun h2 n2 s2 => ?_) hp))
  refine assignInOrder_cons (assign_Name (wpAny_storeName_local hy n2 (fun h3 n3 s3 => ?_) hp))
  obtain ⟨oC, eC, hC⟩ := LCg.ns_obj n3
  refine wpAny_pure (h h3 _ oC _ eC hC ?_ ?_ fun b o hb e => ?_)
  · show (if x = y then some v else if x = x then some u else m x) = some u
    rw [if_neg (Ne.symm hxy), if_pos rfl]
  · show (if y = y then some v else if y = x then some u else m y) = some v
    rw [if_pos rfl]
  · have hbC : b ≠ C := fun q => hb (List.mem_singleton.mpr q)
    exact s3.extBut b o hbC (s2.extBut b o hbC (e1 b o (Nat.ne_of_lt (Heap.lt_size e)) e))
end
/-- the well of draws: the numbers' list, a place, a rest -/
noncomputable def WellOb (Nn : Addr) (o : Obj) : Prop := ∃ (p x : Int) (t1 t2 : Tok) (n : Nat), 0 ≤ p ∧ 0 ≤ x ∧ x < 1009 ∧ o = listOf #[.ref Nn, .int p t1, .int x t2] n

set_option maxHeartbeats 16000000 in
theorem draw_h {w : World} {loose : List Str} {mean : ExcName → Option Value} {mg mb : Str → Option Value} {A₀ : Around} {dp un : Nat} {gd : Option (List Code)} {env : Env} {outer : List Env} {base h₀ : Heap} {L : Addr} {m : Str → Option Value} {s : Shared}
    {W Nn : Addr} {o : Obj} {vs : List Value} {ns : List Int} {size : Int} {t3 : Tok} {Q E : Value → Shared → Prop}
    (B : Below A₀ base outer h₀) (F : Fr h₀ L s.heap m) (X : (hd.heap_1 w.params).In h₀) (T : Top topProg loose mean mg mb h₀)
    (hf : env.frame = some L) (hk : env.scope.kind = .function) (hroom : dp < recursionLimit)
    (N : News h₀ L s.heap [(W, o)]) (hw : WellOb Nn o)
    (hWN : Nn ≠ W) (hl : s.heap.IsList Nn vs.toArray) (hi : IntsAre vs ns) (hlen : ns.length ≤ 63)
    (hs : 0 < size ∧ size < 100)
    (hq : ∀ r t h' tk' o', 0 ≤ r → r < size → Kept [W] s.heap h' → h'.get? W = some o' → WellOb Nn o' → Q (.int r t) { s with heap := h', toks := tk' }) :
    wpAny (model PySem.Challenge.rw_on0310_01.row.prog w) (arT dp un gd env outer) (call (.ref 201) [.ref W, .int size t3]) Q E s := by
  revert X; k_fill; intro X
  obtain ⟨p, x, t1, t2, n, hp, hx0, hx1, rfl⟩ := hw
  refine wpAny_call ?_
  k_dflt (refine' enter (binds := [(Str.ofString "well", .ref W), (Str.ofString "size", .int size t3)]) B F X T N rfl hf hk ?k6 ?k7 ?k8 ?k9 ?kB ?_ ?c2 ?c3 ?c4 ?c5; (case k6 => k_is); (case k7 => k_is); (case k8 => assumption); (case k9 => exact BindsTo.of_eq rfl); (case c5 => decide); (case kB => exact locs rfl); (case c2 => exact rfl); (case c3 => exact rfl); (case c4 => exact rfl); k_whole; intro g L' h' hg hk₁ hL' F' N' B' X' T'; (try dsimp only); (try k_fold))
  have hl' : g.IsList Nn vs.toArray := isList_into hg hl (by simp [hWN])
  clear hl hk₁
  w_strict k_steps
  all_goals (
    dsimp only
    (with_reducible rename Fr _ _ _ _ => kF); (with_reducible rename News _ _ _ _ => kN)
    refine hq _ _ _ _ _ (Int.fmod_nonneg_of_pos _ hs.1) (Int.fmod_lt_of_pos _ hs.1) (kept_of hg kF) (kN (W, _) (by k_mem)).1 ⟨_, _, _, _, _, by omega, ?_, ?_, rfl⟩
    · exact Int.fmod_nonneg_of_pos _ (by decide)
    · exact Int.fmod_lt_of_pos _ (by decide))

/-- a draw, on a ledger -/
theorem draw_K {w : World} {loose : List Str} {mean : ExcName → Option Value} {mg mb : Str → Option Value} {A₀ : Around} {dp un : Nat} {gd : Option (List Code)} {env : Env} {outer : List Env} {base h₀ : Heap} {L : Addr} {m : Str → Option Value} {s : Shared}
    {W Nn : Addr} {o : Obj} {vs : List Value} {ns : List Int} {size : Int} {t3 : Tok} {Q E : Value → Shared → Prop} {news : List (Addr × Obj)} {gn : Obj → List (Addr × Obj)}
    (B : Below A₀ base outer h₀) (F : Fr h₀ L s.heap m) (X : (hd.heap_1 w.params).In h₀) (T : Top topProg loose mean mg mb h₀)
    (hf : env.frame = some L) (hk : env.scope.kind = .function) (hroom : dp < recursionLimit)
    (N : News h₀ L s.heap news) (U : UpdF W o news gn) (hw : WellOb Nn o)
    (hWN : Nn ≠ W) (hl : s.heap.IsList Nn vs.toArray) (hi : IntsAre vs ns) (hlen : ns.length ≤ 63)
    (hs : 0 < size ∧ size < 100)
    (hq : ∀ r t h' tk' o', 0 ≤ r → r < size → Fr h₀ L h' m → News h₀ L h' (gn o') → WellOb Nn o' → Q (.int r t) { s with heap := h', toks := tk' }) :
    wpAny (model PySem.Challenge.rw_on0310_01.row.prog w) (arT dp un gd env outer) (call (.ref 201) [.ref W, .int size t3]) Q E s :=
  draw_h B F X T hf hk hroom (UpdF.one N U) hw hWN hl hi hlen hs fun r t h' tk' o' h1 h2 k ho hw' =>
    let q := News.upd F N U k ho
    hq r t h' tk' o' h1 h2 q.1 q.2 hw'
/-- an operation, as the law builds it -/
inductive Op where
  | nop | remember | back
  | adv (a : Int) | loc (a : Int)
  | restore (m : Int) | undef (m : Int) | same (m : Int) | cfaReg (m : Int) | cfaOff (c : Int)
  | offset (m c : Int) | offsetX (m c : Int) | valOff (m c : Int) | reg (m c : Int) | cfa (m c : Int)
noncomputable def Op.name : Op → Str
  | nop => Str.ofString "nop" | remember => Str.ofString "remember_state" | back => Str.ofString "restore_state"
  | adv _ => Str.ofString "advance_loc" | loc _ => Str.ofString "set_loc"
  | restore _ => Str.ofString "restore" | undef _ => Str.ofString "undefined" | same _ => Str.ofString "same_value" | cfaReg _ => Str.ofString "def_cfa_register" | cfaOff _ => Str.ofString "def_cfa_offset"
  | offset _ _ => Str.ofString "offset" | offsetX _ _ => Str.ofString "offset_extended" | valOff _ _ => Str.ofString "val_offset" | reg _ _ => Str.ofString "register" | cfa _ _ => Str.ofString "def_cfa"
noncomputable def Op.args : Op → List Int
  | nop | remember | back => []
  | adv a | loc a => [a]
  | restore m | undef m | same m | cfaReg m => [m]
  | cfaOff c => [c]
  | offset m c | offsetX m c | valOff m c | reg m c | cfa m c => [m, c]
/-- the marks lie in 0 .. 3 -/
noncomputable def Op.ok : Op → Prop
  | restore m | undef m | same m => 0 ≤ m ∧ m < 4
  | offset m _ | offsetX m _ | valOff m _ | reg m _ => 0 ≤ m ∧ m < 4
  | _ => True
/-- a head's operation -/
noncomputable def Op.head : Op → Prop
  | same _ | offset _ _ | valOff _ _ | reg _ _ | cfa _ _ => True
  | _ => False
noncomputable abbrev tupOb (vs : List Value) (n : Nat) : Obj := { cls := .type "tuple", data := .seq vs.toArray n }
inductive OpIn (h : Heap) (v : Value) (op : Op) : Prop
  | mk (a b : Addr) (t : Tok) (n k : Nat) (vs : List Value) : (v = .ref a) → (h.get? a = some (tupOb [.str op.name t, .ref b] n)) → (h.get? b = some (tupOb vs k)) → IntsAre vs op.args → OpIn h v op
theorem OpIn.keeps {h h' : Heap} {v : Value} {op : Op} {as : List Addr} (x : OpIn h v op) (k : Kept as h h') (hn : ∀ a ∈ as, ∀ o n, h.get? a = some o → o.data ≠ .seq #[] n ∧ o.cls ≠ .type "tuple") : OpIn h' v op := by
  obtain ⟨a, b, t, n, q, vs, rfl, h1, h2, h3⟩ := x
  refine ⟨a, b, t, n, q, vs, rfl, k _ _ (fun q => (hn _ q _ 0 h1).2 rfl) h1, k _ _ (fun q => (hn _ q _ 0 h2).2 rfl) h2, h3⟩

noncomputable def opNames : List Str := [Str.ofString "nop", Str.ofString "remember_state", Str.ofString "restore_state", Str.ofString "advance_loc", Str.ofString "set_loc", Str.ofString "restore", Str.ofString "undefined", Str.ofString "same_value", Str.ofString "def_cfa_register", Str.ofString "def_cfa_offset", Str.ofString "offset", Str.ofString "offset_extended", Str.ofString "val_offset", Str.ofString "register", Str.ofString "def_cfa"]
/-- a dict's entry under a written key -/
noncomputable abbrev ent (x : Str) (q : Int × Tok) (v : Value) : DictEntry := ⟨q.1, .str x q.2, v⟩
noncomputable abbrev Cfa := Option (Int × Int)
noncomputable abbrev Rule := Str × Int
noncomputable abbrev Rules := Int → Option Rule
structure Row where
  addr : Int
  cfa : Cfa
  rules : Rules
structure RS where
  addr : Int
  cfa : Cfa
  rules : Rules
  first : Rules
  kept : List (Cfa × Rules)
  rows : List Row
noncomputable def put (f : Rules) (m : Int) (r : Rule) : Rules := fun k => if k = m then some r else f k
noncomputable def RS.go (s : RS) (a : Int) : Option RS :=
  if a < s.addr then none else if s.addr < a then some { s with rows := s.rows ++ [⟨s.addr, s.cfa, s.rules⟩], addr := a } else some s
/-- one operation, as the program does it -/
noncomputable def RS.step (s : RS) : Op → Option RS
  | .nop => some s
  | .adv a => s.go (s.addr + a)
  | .loc a => s.go a
  | .remember => some { s with kept := s.kept ++ [(s.cfa, s.rules)] }
  | .back => match s.kept.getLast? with
    | none => none
    | some p => some { s with kept := s.kept.dropLast, cfa := p.1, rules := p.2 }
  | .cfa m c => some { s with cfa := some (m, c) }
  | .cfaReg m => match s.cfa with
    | none => none
    | some p => some { s with cfa := some (m, p.2) }
  | .cfaOff c => match s.cfa with
    | none => none
    | some p => some { s with cfa := some (p.1, c) }
  | .restore m => some { s with rules := fun k => if k = m then s.first m else s.rules k }
  | .offset m c | .offsetX m c => some { s with rules := put s.rules m (Str.ofString "offset", c) }
  | .valOff m c => some { s with rules := put s.rules m (Str.ofString "val_offset", c) }
  | .reg m c => some { s with rules := put s.rules m (Str.ofString "register", c) }
  | .same m => some { s with rules := put s.rules m (Str.ofString "same", 0) }
  | .undef m => some { s with rules := put s.rules m (Str.ofString "undefined", 0) }

noncomputable abbrev iK (w : World) : KeyKind PySem.Challenge.rw_on0310_01.row.prog w Int := intKind PySem.Challenge.rw_on0310_01.row.prog w

inductive CfaIn (h : Heap) : Value → Cfa → Prop
  | nil : CfaIn h .none none
  | pair {a : Addr} {x y : Int} {t u : Tok} {n : Nat} : h.get? a = some (tupOb [.int x t, .int y u] n) → CfaIn h (.ref a) (some (x, y))
inductive RuleIn (h : Heap) : Value → Rule → Prop
  | mk {a : Addr} {x : Str} {y : Int} {t u : Tok} {n : Nat} : h.get? a = some (tupOb [.str x t, .int y u] n) → RuleIn h (.ref a) (x, y)
/-- a dict's items bear the rules -/
structure Bears (h : Heap) (kvs : List (Int × Value)) (f : Rules) : Prop where
  val : ∀ k v, valueAt kvs k = some v → ∃ r, f k = some r ∧ RuleIn h v r
  dom : ∀ k, valueAt kvs k = none → f k = none
  keys : ∀ p ∈ kvs, 0 ≤ p.1 ∧ p.1 < 4
inductive RulesAt (w : World) (h : Heap) (d : Addr) (f : Rules) : Prop
  | mk (o kvs : _) : (h.get? d = some o) → ((d == sysModules) = false) → o.IsDictOf (iK w) kvs → Bears h kvs f → RulesAt w h d f
inductive RowIn (w : World) (h : Heap) : Value → Row → Prop
  | mk {x dx d : Addr} {q1 q2 q3 : Int × Tok} {n : Nat} {t : Tok} {cv : Value} {r : Row} : h.get? x = some (instObj 63 dx) → h.get? dx = some (dictOf [ent (Str.ofString "address") q1 (.int r.addr t), ent (Str.ofString "cfa") q2 cv, ent (Str.ofString "rules") q3 (.ref d)] n) →
      CfaIn h cv r.cfa → RulesAt w h d r.rules → RowIn w h (.ref x) r

theorem CfaIn.keeps {h h' : Heap} {v : Value} {c : Cfa} (x : CfaIn h v c) (k : ∀ b o, h.get? b = some o → h'.get? b = some o) : CfaIn h' v c := by
  cases x with
  | nil => exact .nil
  | pair e => exact .pair (k _ _ e)
theorem RuleIn.keeps {h h' : Heap} {v : Value} {c : Rule} (x : RuleIn h v c) (k : ∀ b o, h.get? b = some o → h'.get? b = some o) : RuleIn h' v c := by
  cases x with
  | mk e => exact .mk (k _ _ e)
theorem Bears.keeps {h h' : Heap} {kvs : List (Int × Value)} {f : Rules} (x : Bears h kvs f) (k : ∀ b o, h.get? b = some o → h'.get? b = some o) : Bears h' kvs f :=
  ⟨fun i v e => let ⟨r, h1, h2⟩ := x.val i v e; ⟨r, h1, h2.keeps k⟩, x.dom, x.keys⟩
theorem RulesAt.keeps {w : World} {h h' : Heap} {d : Addr} {f : Rules} (x : RulesAt w h d f) (k : ∀ b o, h.get? b = some o → h'.get? b = some o) : RulesAt w h' d f :=
  let ⟨o, kvs, h1, h2, h3, h4⟩ := x; ⟨o, kvs, k _ _ h1, h2, h3, h4.keeps k⟩
theorem RowIn.keeps {w : World} {h h' : Heap} {v : Value} {r : Row} (x : RowIn w h v r) (k : ∀ b o, h.get? b = some o → h'.get? b = some o) : RowIn w h' v r := by
  cases x with
  | mk h1 h2 h3 h4 => exact .mk (k _ _ h1) (k _ _ h2) (h3.keeps k) (h4.keeps k)

inductive All2 {α β : Type} (P : α → β → Prop) : List α → List β → Prop
  | nil : All2 P [] []
  | cons {a b as bs} : P a b → All2 P as bs → All2 P (a :: as) (b :: bs)
theorem All2.imp {α β : Type} {P P' : α → β → Prop} {as : List α} {bs : List β} (x : All2 P as bs) (k : ∀ a b, P a b → P' a b) : All2 P' as bs := by
  induction x with
  | nil => exact .nil
  | cons h _ ih => exact .cons (k _ _ h) ih
theorem All2.append {α β : Type} {P : α → β → Prop} {as as' : List α} {bs bs' : List β} (x : All2 P as bs) (y : All2 P as' bs') : All2 P (as ++ as') (bs ++ bs') := by
  induction x with
  | nil => exact y
  | cons h _ ih => exact .cons h ih
theorem All2.length {α β : Type} {P : α → β → Prop} {as : List α} {bs : List β} (x : All2 P as bs) : as.length = bs.length := by
  induction x with
  | nil => rfl
  | cons _ _ ih => rw [List.length_cons, List.length_cons, ih]
theorem All2.snoc {α β : Type} {P : α → β → Prop} {as : List α} {bs : List β} {b : β} (x : All2 P as (bs ++ [b])) : ∃ as' a, as = as' ++ [a] ∧ All2 P as' bs ∧ P a b := by
  induction bs generalizing as with
  | nil =>
    cases x with
    | cons h r => cases r; exact ⟨[], _, rfl, .nil, h⟩
  | cons c bs ih =>
    cases x with
    | cons h r =>
      obtain ⟨as', a, rfl, h1, h2⟩ := ih r
      exact ⟨_ :: as', a, rfl, .cons h h1, h2⟩
theorem All2.get {α β : Type} {P : α → β → Prop} {as : List α} {bs : List β} (x : All2 P as bs) {i : Nat} {a : α} (e : as[i]? = some a) : ∃ b, bs[i]? = some b ∧ P a b := by
  induction x generalizing i with
  | nil => cases e
  | cons h _ ih =>
    cases i with
    | zero => cases e; exact ⟨_, rfl, h⟩
    | succ i => exact ih e
noncomputable abbrev excTail : List Value := [.ref 31, .type "Exception", .type "BaseException", .type "object"]
inductive Cls44 (h : Heap) : Prop
  | mk (nm q bs sn sub ab col dd k0 k1 k2 k3 k5 : _) : (h.get? 44 = some (excClassObj nm q 44 43 bs excTail true sn sub ab col dd k0 k1 k2 k3 k5 "Exception.__new__")) → Cls44 h
/-- the fault's class, its base, the two namespaces, the init -/
structure FaultCls (h : Heap) : Prop where
  c44 : Cls44 h
  c31 : ∃ cd dd sl, h.get? 31 = some { cls := .type "type", dict := dd, data := .cls cd, slots := sl } ∧ cd.ns = 30
  n43 : ∃ m, h.Ns 43 m ∧ m "__init__" = none ∧ m "__setattr__" = none ∧ m "word" = none
  n30 : ∃ m, h.Ns 30 m ∧ m "__init__" = some (.ref 28) ∧ m "__setattr__" = none ∧ m "word" = none
  f28 : ∃ o, h.get? 28 = some o ∧ o.cls = .type "function"
theorem FaultCls.keeps {h h' : Heap} (x : FaultCls h) (k : ∀ b o, h.get? b = some o → h'.get? b = some o) : FaultCls h' := by
  obtain ⟨⟨a1, a2, a3, a4, a5, a6, a7, a8, a9, b1, b2, b3, b4, e1⟩, ⟨cd, dd, sl, e2, e3⟩, ⟨m1, e4, e5⟩, ⟨m2, e6, e7⟩, ⟨o, e8, e9⟩⟩ := x
  exact ⟨⟨a1, a2, a3, a4, a5, a6, a7, a8, a9, b1, b2, b3, b4, k _ _ e1⟩, ⟨cd, dd, sl, k _ _ e2, e3⟩, ⟨m1, e4.keeps k, e5⟩, ⟨m2, e6.keeps k, e7⟩, ⟨o, k _ _ e8, e9⟩⟩
theorem init30 {P : Params} {h : Heap} (X : (hd.heap_1 P).In h) : h.nsMap 30 "__init__" = some (.ref 28) := by
  unfold Heap.nsMap
  rw [X 30 _ rfl]
  rfl
theorem faultCls {P : Params} {h : Heap} (X : (hd.heap_1 P).In h) : FaultCls h := by
  refine ⟨⟨_, _, _, _, _, _, _, _, _, _, _, _, _, X 44 _ rfl⟩, ⟨_, _, _, X 31 _ rfl, rfl⟩, ⟨_, .of_isNs (isNs_of_in X (N := 43) (by kernel_rfl)), nsMap_none_of_in X (by kernel_rfl) (by kernel_rfl), nsMap_none_of_in X (by kernel_rfl) (by kernel_rfl), nsMap_none_of_in X (by kernel_rfl) (by kernel_rfl)⟩, ⟨_, .of_isNs (isNs_of_in X (N := 30) (by kernel_rfl)), init30 X, nsMap_none_of_in X (by kernel_rfl) (by kernel_rfl), nsMap_none_of_in X (by kernel_rfl) (by kernel_rfl)⟩, ⟨_, X 28 _ rfl, rfl⟩⟩

section
variable {prog : Program} {w : World} {A : Around} {E : Value → Shared → Prop} {h : Heap} {g : Array GenState} {d : Drawn} {t : Nat} {os : OsState}
theorem init44 {Q : Option Value → Shared → Prop} {M : Model} (C : FaultCls h) (hq : Q (some (.ref 28)) ⟨h, g, d, t, os⟩) : wpAny M A (typeLookup (.ref 44) "__init__") Q E ⟨h, g, d, t, os⟩ := by
  obtain ⟨a1, a2, a3, a4, a5, a6, a7, a8, a9, b1, b2, b3, b4, hC⟩ := C.c44
  obtain ⟨cd, dd, sl, hD, hns⟩ := C.c31
  obtain ⟨m1, n43, i43, _, _⟩ := C.n43
  obtain ⟨m2, n30, i30, _, _⟩ := C.n30
  rw [typeLookup_eq]
  refine wpAny_bind (wpAny_mroOf_exc hC ?_)
  rw [lookupAlong_cons]
  refine wpAny_bind (wpAny_classOwn_exc hC n43 ?_)
  rw [i43]
  show wpAny _ _ (lookupAlong excTail _) _ _ _
  rw [excTail, lookupAlong_cons]
  refine wpAny_bind (wpAny_classOwn_cls hD (hns ▸ n30) ?_)
  rw [i30]
  exact wpAny_pure hq

theorem new44_check {rest : List Value} {Q : Unit → Shared → Prop} {M : Model} (C : FaultCls h) (hq : Q () ⟨h, g, d, t, os⟩) : wpAny M A (checkBuiltinCall "Exception.__new__" ⟨.ref 44 :: rest, []⟩) Q E ⟨h, g, d, t, os⟩ := by
  obtain ⟨a1, a2, a3, a4, a5, a6, a7, a8, a9, b1, b2, b3, b4, hC⟩ := C.c44
  have F := PySem.F.excBase_Exception
  have hstar := F.noStar
  have hc : (Value.ref 44 :: excTail).contains (.type "Exception") = true := by decide
  simp only [checkBuiltinCall, F.newKind, F.newSplit, F.newRow]
  repeat (first | refine wpAny_loadPart_at hC ?_ | (refine wpAny_isSubtype_exc hC ?_; rw [hc]) | refine wpAny_staticBase_exc hC ?_ | refine wpAny_madeBy_exc hC ?_ | simp only [bne_self_eq_false, Bool.false_eq_true, if_false] | wp_step)
  exact hq

theorem new44 {rest : List Value} {R : Result → Shared → Prop} (C : FaultCls h)
    (hq : R (.ok (.ret (.ref (h.objs.size + 1)))) ⟨(h.push { cls := .type "tuple", data := .seq rest.toArray }).push { cls := .ref 44, data := .fields #[.ref h.objs.size, .none, .none, .none, .bool false, .none] }, g, d, t, os⟩) (hrest : rest.length ≤ sizeLine) :
    codeAny (model prog w) A (.builtin "Exception.__new__" ⟨.ref 44 :: rest, []⟩) R ⟨h, g, d, t, os⟩ := by
  obtain ⟨a1, a2, a3, a4, a5, a6, a7, a8, a9, b1, b2, b3, b4, hC⟩ := C.c44
  have F := PySem.F.excBase_Exception
  have hends := F.ends
  have c1 : (Value.ref 44 :: excTail).contains (.type "Exception") = true := by decide
  have c2 : (Value.ref 44 :: excTail).contains (.type "AttributeError") = false := by decide
  have c3 : (Value.ref 44 :: excTail).contains (.type "NameError") = false := by decide
  refine codeAny_builtinAt F.entry ?_
  unfold Builtin.«BaseException.__new__»
  refine PySem.wpAt_bind ?_
  show PySem.wpAt _ _ _ (stack >>= _) _ _ _
  refine PySem.wpAt_bind (PySem.wpAt_stack fun p below => PySem.wpAt_of_wpAny ?_)
  wp_walk
  refine PySem.wpAt_of_wpAny ?_
  rw [F.owner]
  repeat (first | with_reducible refine wpAny_madeHere_exc F.canon hC ?_ | with_reducible refine wpAny_loadPart_at hC ?_ | (with_reducible refine wpAny_isSubtype_exc hC ?_; first | rw [c1] | rw [c2] | rw [c3]) | wp_step)
  show R _ _
  rw [Heap.size_push]
  exact hq

theorem type_call44 {rest : List Value} {Q : Fin → Shared → Prop} (C : FaultCls h)
    (hq : ∀ h' e, Heap.MadeExcOf h h' e (.ref 44) rest → wpAny (model prog w) A (call (.ref 28) (.ref e :: rest)) (fun r s' => r = .none ∧ Q (.done (.ret (.ref e))) s') E ⟨h', g, d, t, os⟩) (hrest : rest.length ≤ sizeLine) :
    wpAny (model prog w) A (Builtin.«type.__call__» ⟨.ref 44 :: rest, []⟩) Q E ⟨h, g, d, t, os⟩ := by
  have C₀ := C
  obtain ⟨a1, a2, a3, a4, a5, a6, a7, a8, a9, b1, b2, b3, b4, hC⟩ := C.c44
  have F := PySem.F.excBase_Exception
  repeat (first | with_reducible refine wpAny_loadPart_at hC ?_ | with_reducible refine wpAny_madeBy_exc hC ?_ | wp_step)
  refine codeAny_call_builtin_code (Code.quiet_builtin _ F.quiet) (new44_check C ?_)
  refine new44 C ?_ hrest
  show wpAny _ _ _ _ _ _
  have up : ∀ b o, h.get? b = some o → ((h.push { cls := .type "tuple", data := .seq rest.toArray }).push { cls := .ref 44, data := .fields #[.ref h.objs.size, .none, .none, .none, .bool false, .none] }).get? b = some o :=
    fun b o e => Heap.get?_push_of_some _ (Heap.get?_push_of_some _ e)
  have C₁ := C.keeps up
  have hC₁ := up _ _ hC
  have hget : ((h.push { cls := .type "tuple", data := .seq rest.toArray }).push { cls := .ref 44, data := .fields #[.ref h.objs.size, .none, .none, .none, .bool false, .none] }).get? (h.objs.size + 1) = some
      { cls := .ref 44, data := .fields #[.ref h.objs.size, .none, .none, .none, .bool false, .none] } := by heap_get
  have c4 : (Value.ref 44 :: excTail).contains (.ref 44) = true := by decide
  unfold isInstance
  repeat (first | with_reducible refine wpAny_loadPart_at hget ?_ | (with_reducible refine wpAny_isSubtype_exc hC₁ ?_; rw [c4]) | wp_step)
  show wpAny _ _ (typeLookup (.ref 44) _) _ _ _
  refine init44 C₁ ?_
  obtain ⟨o28, h28, hc28⟩ := C₁.f28
  refine wpAny_holding (wpAny_bind ?_)
  unfold bindSpecial
  refine wpAny_bind (wpAny_typeOf (T := "function") ⟨_, h28, hc28⟩ ?_)
  rw [if_pos (by decide)]
  refine wpAny_pure (wpAny_bind (wpAny_mono (hq _ (h.objs.size + 1) ⟨up, Heap.get?_none_of_le (Nat.le_succ _), h.objs.size, hget, Heap.get?_none_of_le (Nat.le_refl _), ?_⟩) (fun r s' hr => ?_) fun _ _ x => x))
  · exact Heap.get?_push_of_some _ (Heap.get?_push_at rfl rfl)
  · obtain ⟨rfl, hQ⟩ := hr
    wp_walk
    exact hQ

theorem call44 {rest : List Value} {Q : Value → Shared → Prop} (C : FaultCls h)
    (hq : ∀ h' e, Heap.MadeExcOf h h' e (.ref 44) rest →
      wpAny (model prog w) (A.under (.builtin "type.__call__" ⟨.ref 44 :: rest, []⟩)) (call (.ref 28) (.ref e :: rest)) (fun r s' => r = .none ∧ Q (.ref e) s') E ⟨h', g, d, t, os⟩) (hrest : rest.length ≤ sizeLine) :
    wpAny (model prog w) A (call (.ref 44) rest) Q E ⟨h, g, d, t, os⟩ := by
  have f1 := tc_lookup
  have f2 := tc_bind (.ref 44)
  obtain ⟨a1, a2, a3, a4, a5, a6, a7, a8, a9, b1, b2, b3, b4, hC⟩ := C.c44
  have hT : (⟨h, g, d, t, os⟩ : Shared).TypeIs (.ref 44) "type" := ⟨_, hC, rfl⟩
  refine wpAny_call (codeAny_of_tree ?_)
  show wpAny _ _ (callAny (.ref 44) _) _ _ _
  repeat (any_goals (first | assumption | with_reducible refine wpAny_loadPart_at hC ?_ | wp_step))
  refine ⟨rfl, ?_⟩
  refine codeAny_call_builtin_at (Code.quiet_builtin _ (by decide +kernel)) entry_typeCall (wpAny_check_type_call_sub hC (type_call44 C (fun h' e hm => ?_) hrest))
  exact hq h' e hm

noncomputable abbrev excOb (t : Addr) (dd : Option Addr) : Obj := { cls := .ref 44, dict := dd, data := .fields #[.ref t, .none, .none, .none, .bool false, .none] }
theorem init44_check {M : Model} {e t₀ : Addr} {rest : List Value} {Q : Unit → Shared → Prop} (C : FaultCls h) (he : h.get? e = some (excOb t₀ none)) (hq : Q () ⟨h, g, d, t, os⟩) :
    wpAny M A (checkBuiltinCall "Exception.__init__" ⟨.ref e :: rest, []⟩) Q E ⟨h, g, d, t, os⟩ := by
  obtain ⟨a1, a2, a3, a4, a5, a6, a7, a8, a9, b1, b2, b3, b4, hC⟩ := C.c44
  have F := PySem.F.excBase_Exception
  have hc : (Value.ref 44 :: excTail).contains (.type "Exception") = true := by decide
  have hshort := F.noStar
  simp only [checkBuiltinCall, F.initKind, F.initSplit, F.initRow]
  repeat (first | with_reducible refine wpAny_loadPart_at he ?_ | with_reducible refine wpAny_loadPart_at hC ?_ | (with_reducible refine wpAny_isSubtype_exc hC ?_; rw [hc]) | wp_step)
  refine wpAny_onRaise ?_
  rw [show ∀ (a b : String) (n : Nat), Bind.check ⟨.positional, "*", "Exception", .self, [⟨"args", .varPos, false⟩]⟩ a b n (List.map (fun x => x.fst) ({ pos := Value.ref e :: rest } : Args).kw) = pure () from
    fun a b n => check_star_args _ _ _ _ _ _]
  exact wpAny_pure hq
theorem exc_init {e t₀ : Addr} {v : Value} {Q : Value → Shared → Prop} (C : FaultCls h) (he : h.get? e = some (excOb t₀ none))
    (hq : ∀ h' t', Kept [e] h h' → h'.get? e = some (excOb t' none) → h.get? t' = none → Q .none ⟨h', g, d, t, os⟩) :
    wpAny (model prog w) A (call (.builtin "Exception.__init__") [.ref e, v]) Q E ⟨h, g, d, t, os⟩ := by
  have F := PySem.F.excBase_Exception
  refine wpAny_call (codeAny_call_builtin F.init.plain F.initEntry (init44_check C he ?_))
  wp_walk
  have hlt := Heap.lt_size he
  refine hq _ h.objs.size (fun b o hb e' => ?_) ?_ (Heap.get?_none_of_le (Nat.le_refl _))
  · rw [Heap.get?_update_other _ _ (fun q => hb (List.mem_singleton.mpr q.symm))]
    exact Heap.get?_push_of_some _ e'
  · rw [Heap.get?_update_self _ (Heap.get?_push_of_some _ he) rfl]
    rfl

end

section
variable {prog : Program} {w : World} {A : Around} {E : Value → Shared → Prop} {s : Shared}
/-- the fault's word is stored -/
theorem word_attr {P : Params} {e t₀ : Addr} {v : Value} {Q : Unit → Shared → Prop} (X : (hd.heap_1 P).In s.heap) (he : s.heap.get? e = some (excOb t₀ none))
    (hq : ∀ h' tk' dd, Kept [e] s.heap h' → h'.get? e = some (excOb t₀ (some dd)) → Q () { s with heap := h', toks := tk' }) :
    wpAny (model prog w) A (setAttr (.ref e) (Str.ofString "word") v) Q E s := by
  have I : InstAt s.heap e (excOb t₀ none) 44 none := ⟨he, rfl, rfl, trivial⟩
  have SF := PySem.F.store_object
  have SE := PySem.F.store_Exception
  have hcls : ∃ cd, clsIn (hd.heap_1 P) 44 = some cd ∧ cd.mro = .ref 44 :: excTail ∧ cd.hasDict = true := ⟨_, rfl, rfl, rfl⟩
  obtain ⟨cd, hc, hm, hdict⟩ := hcls
  refine set_plain X I (by kernel_rfl) ?_
  have X' : (hd.heap_1 P).In ({ s with toks := s.toks + 1 } : Shared).heap := X
  have I' : InstAt ({ s with toks := s.toks + 1 } : Shared).heap e (excOb t₀ none) 44 none := I
  have sub : Looks (model prog w) ({ s with toks := s.toks + 1 } : Shared).heap (isInstance (.ref e) (.type "object")) true := I'.type.andThen (looks_mroIn X' (by kernel_rfl))
  refine codeAny_call_builtin SF.slot.plain SF.entry (@check_slot (model prog w) _ _ { s with toks := s.toks + 1 } "object.__setattr__" "object" "__setattr__" (.ref e) [.str (Str.ofString "word") s.toks, v] [] _ SF.kind SF.split sub (SF.args (.ref e) (.str (Str.ofString "word") s.toks) v) ?_)
  have hmro : Looks (model prog w) ({ s with toks := s.toks + 1 } : Shared).heap (mroOf (.ref 44)) cd.mro := (looks_clsIn X' hc).andThen .now
  have hfind : Looks (model prog w) ({ s with toks := s.toks + 1 } : Shared).heap (typeLookup (.ref 44) (Str.ofString "word")) none := looks_findIn X' (by kernel_rfl)
  rw [osa_eq, PySem.refuse_eq]
  refine wpAny_bind (wpAny_bind (I'.type.here (wpAny_bind (hmro.here ?_))))
  rw [hm, PySem.refuseLoop_ref, excTail, PySem.refuseLoop_ref, SE.passes]
  refine wpAny_pure (wpAny_bind (I'.type.here (wpAny_bind (hfind.here (wpAny_bind ?_)))))
  refine (Looks.now (M := model prog w)).here ?_
  refine wpAny_bind (wpAny_pure (wpAny_bind (wpAny_bind (wpAny_loadPart he (wpAny_bind ((looks_clsIn X' hc).here ?_))))))
  rw [hdict]
  have hx₁ : (s.heap.push { cls := .type "dict", data := .dict #[] }).get? e = some (excOb t₀ none) := Heap.get?_push_of_some _ he
  have hxs : e ≠ s.heap.objs.size := Nat.ne_of_lt (Heap.lt_size he)
  simp only [Bool.not_true, Bool.false_eq_true, if_false, typeHasDict, Bool.or_self]
  refine wpAny_bind (wpAny_alloc ?_)
  refine wpAny_bind (wpAny_update hx₁ ?_)
  refine wpAny_pure ?_
  have hgd : ((s.heap.push { cls := .type "dict", data := .dict #[] }).update e fun o => { cls := o.cls, dict := some s.heap.objs.size, data := o.data, slots := o.slots }).get? s.heap.objs.size
      = some { cls := .type "dict", data := .dict #[] } :=
    (Heap.get?_update_ne _ _ _ _ hxs.symm).trans (Heap.get?_push_at rfl rfl)
  have hge : ((s.heap.push { cls := .type "dict", data := .dict #[] }).update e fun o => { cls := o.cls, dict := some s.heap.objs.size, data := o.data, slots := o.slots }).get? e = some (excOb t₀ (some s.heap.objs.size)) :=
    Heap.get?_update_self _ hx₁ rfl
  have hnd : ((s.heap.push { cls := .type "dict", data := .dict #[] }).update e fun o => { cls := o.cls, dict := some s.heap.objs.size, data := o.data, slots := o.slots }).Ns s.heap.objs.size (fun _ => none) :=
    ⟨_, #[], _, hgd, rfl, fun e he => absurd he (by simp), fun _ => rfl⟩
  refine wpAny_bind (wpAny_pure ?_)
  show wpAny _ _ (Builtin.ObjectAttr.storeInDict s.heap.objs.size (.str (Str.ofString "word") s.toks) (Str.ofString "word") v) _ _ _
  unfold Builtin.ObjectAttr.storeInDict Builtin.ObjectAttr.newKeyGuard
  refine wpAny_bind (wpAny_pure (wpAny_bind (wpAny_nsSet1 (Heap.Ns1.of_empty hnd) fun h' hn' hs => ?_)))
  obtain ⟨oD, esD, epD, hoD, hdD, hcD⟩ := hn'.count (Within.cons (Str.ofString "word") v Within.nil)
  refine wpAny_bind (wpAny_lookBehind hoD (by rw [hdD]; exact pastItsLine_dict (Nat.le_trans hcD (by rw [List.length_cons, List.length_nil, sizeLine_eq]; omega))) ?_)
  wp_walk
  refine hq h' _ s.heap.objs.size (fun b ob hb hob => ?_) ((hs.2 e hxs).trans hge)
  exact (hs.2 b (Nat.ne_of_lt (Heap.lt_size hob))).trans ((Heap.get?_update_ne _ _ _ _ (fun q => hb (List.mem_singleton.mpr q))).trans (Heap.get?_push_of_some _ hob))
end
theorem lines_E2 : True := by
  k_with_none
  (k_with "getMethod type:Exception" => (k_here; refine' method_type ?FzE20 ?XzE20 ?mzE20 (by decide +kernel) ?ezE20 ?hzE20 ?_; (case FzE20 => k_asm); (case XzE20 => k_asm); (case mzE20 => exact meta_exc); (case ezE20 => k_dflt k_is); (case hzE20 => k_handed)))
  (k_with "call builtin:Exception.__init__" => (k_here; k_dflt (refine' exc_init_K ?FzE21 ?XzE21 ?NzE21 ?UzE21 ?_; (case FzE21 => k_asm); (case XzE21 => k_asm); (case NzE21 => k_asm); (case UzE21 => k_updF)); intro _ _ _ _))
  (k_with "setAttr ref" => (k_here; (with_reducible show wpAny _ _ (setAttr (Value.ref _) (PySem.Str.ofString "word") _) _ _ _); k_dflt (refine' word_K ?FzE22 ?XzE22 ?NzE22 ?UzE22 ?_; (case FzE22 => k_asm); (case XzE22 => k_asm); (case NzE22 => k_asm); (case UzE22 => k_updF)); intro _ _ _ _ _))
  trivial
section
variable {prog : Program} {w : World} {A : Around} {E : Value → Shared → Prop} {s : Shared} {h₀ : Heap} {L : Addr} {m : Str → Option Value} {news : List (Addr × Obj)} {gn : Obj → List (Addr × Obj)} {P : Params} {e t₀ : Addr} {v : Value}
theorem exc_init_K {Q : Value → Shared → Prop} (F : Fr h₀ L s.heap m) (X : (hd.heap_1 P).In h₀) (N : News h₀ L s.heap news) (U : UpdF e (excOb t₀ none) news gn)
    (h : ∀ h' t', Fr h₀ L h' m → News h₀ L h' (gn (excOb t' none)) → Q .none { s with heap := h' }) : wpAny (model prog w) A (call (.builtin "Exception.__init__") [.ref e, v]) Q E s := by
  obtain ⟨hh, g, d, t, os⟩ := s
  exact exc_init (faultCls (X.keeps F.keep)) (UpdF.one N U _ (.head _)).1 fun h' t' k he _ => let q := News.upd F N U k he; h h' t' q.1 q.2
theorem word_K {Q : Unit → Shared → Prop} (F : Fr h₀ L s.heap m) (X : (hd.heap_1 P).In h₀) (N : News h₀ L s.heap news) (U : UpdF e (excOb t₀ none) news gn)
    (h : ∀ h' tk' dd, Fr h₀ L h' m → News h₀ L h' (gn (excOb t₀ (some dd))) → Q () { s with heap := h', toks := tk' }) : wpAny (model prog w) A (setAttr (.ref e) (Str.ofString "word") v) Q E s :=
  word_attr (X.keeps F.keep) (UpdF.one N U _ (.head _)).1 fun h' tk' dd k he => let q := News.upd F N U k he; h h' tk' dd q.1 q.2
end
theorem meta_exc : typeOf (.type "Exception") = pure (.type "type") := by with_unfolding_all rfl
set_option maxHeartbeats 16000000 in
theorem init28 {w : World} {loose : List Str} {mean : ExcName → Option Value} {mg mb : Str → Option Value} {A A₀ : Around} {env : Env} {outer : List Env} {base h₀ : Heap} {L : Addr} {m : Str → Option Value} {s : Shared}
    {e t : Addr} {t1 : Tok} {msg : Str} {Q E : Value → Shared → Prop}
    (B : Below A₀ base outer h₀) (F : Fr h₀ L s.heap m) (X : (hd.heap_1 w.params).In h₀) (T : Top topProg loose mean mg mb h₀)
    (hA : A.frames = some (env :: outer)) (hf : env.frame = some L) (hk : env.scope.kind = .function) (hroom : A.depth < recursionLimit)
    (N : News h₀ L s.heap [(e, excOb t none)])
    (hq : ∀ h' tk' t' dd, Kept [e] s.heap h' → h'.get? e = some (excOb t' (some dd)) → Q .none { s with heap := h', toks := tk' }) :
    wpAny (model PySem.Challenge.rw_on0310_01.row.prog w) A (call (.ref 28) [.ref e, .str msg t1]) Q E s := by
  revert X; k_fill; intro X
  refine wpAny_call ?_
  k_dflt (refine' enter (binds := [(Str.ofString "self", .ref e), (Str.ofString "word", .str msg t1)]) B F X T N hA hf hk ?k6 ?k7 ?k8 ?k9 ?kB ?_ ?c2 ?c3 ?c4 ?c5; (case k6 => k_is); (case k7 => k_is); (case k8 => assumption); (case k9 => exact BindsTo.of_eq rfl); (case c5 => decide); (case kB => exact locs rfl); (case c2 => exact rfl); (case c3 => exact rfl); (case c4 => exact rfl); k_whole; intro g L' h' hg hk₁ hL' F' N' B' X' T'; (try dsimp only); (try k_fold))
  w_strict k_steps
  all_goals (
    (try k_unfold)
    (try dsimp only)
    (with_reducible rename Fr _ _ _ _ => kF)
    (with_reducible rename News _ _ _ _ => kN)
    exact hq _ _ _ _ (kept_of hg kF) (kN _ (.head _)).1)

/-- a fault is made -/
structure MadeFault (h h' : Heap) (e : Addr) : Prop where
  keeps : ∀ b o, h.get? b = some o → h'.get? b = some o
  new : h.get? e = none
  there : ∃ t dd, h'.get? e = some (excOb t dd)
theorem fault_call {w : World} {loose : List Str} {mean : ExcName → Option Value} {mg mb : Str → Option Value} {A A₀ : Around} {env : Env} {outer : List Env} {base h₀ : Heap} {L : Addr} {m : Str → Option Value} {s : Shared}
    {t1 : Tok} {msg : Str} {Q E : Value → Shared → Prop}
    (B : Below A₀ base outer h₀) (F : Fr h₀ L s.heap m) (X : (hd.heap_1 w.params).In h₀) (T : Top topProg loose mean mg mb h₀)
    (hA : A.frames = some (env :: outer)) (hf : env.frame = some L) (hk : env.scope.kind = .function) (hroom : A.depth + 1 < recursionLimit)
    (hq : ∀ h' tk' e, MadeFault s.heap h' e → Q (.ref e) { s with heap := h', toks := tk' }) :
    wpAny (model PySem.Challenge.rw_on0310_01.row.prog w) A (call (.ref 44) [.str msg t1]) Q E s := by
  obtain ⟨hh, g, d, tk, os⟩ := s
  refine call44 (faultCls (X.keeps F.keep)) (fun h' e hm => ?_) (by rw [sizeLine_eq]; exact Nat.le_of_ble_eq_true rfl)
  have F₁ : Fr h₀ L h' m := ⟨F.ns.keeps hm.keeps, fun b o q => hm.keeps _ _ (F.keep b o q), F.above⟩
  obtain ⟨t, he, _, _⟩ := hm.there
  obtain ⟨oL, _, _, hL, _⟩ := F.ns
  have N₁ : News h₀ L h' [(e, excOb t none)] := fun p hp => by
    rw [List.mem_singleton.mp hp]
    refine ⟨he, fun q => ?_, ?_⟩
    · have := hm.new
      rw [show e = L from q, hL] at this; cases this
    · cases q : h₀.get? e with
      | none => rfl
      | some o => have := F.keep e o q; rw [hm.new] at this; cases this
  refine init28 (s := ⟨h', g, d, tk, os⟩) B F₁ X T (A := A.under _) hA hf hk (by rw [depth_under_make]; exact hroom) N₁ fun h'' tk' t' dd k he' => ⟨rfl, hq h'' tk' e ⟨fun b o q => k b o (fun z => ?_) (hm.keeps b o q), hm.new, t', some dd, he'⟩⟩
  rw [List.mem_singleton.mp z, hm.new] at q; cases q
theorem fault_call_K {w : World} {loose : List Str} {mean : ExcName → Option Value} {mg mb : Str → Option Value} {A A₀ : Around} {env : Env} {outer : List Env} {base h₀ : Heap} {L : Addr} {m : Str → Option Value} {s : Shared}
    {t1 : Tok} {msg : Str} {Q E : Value → Shared → Prop} {news : List (Addr × Obj)}
    (B : Below A₀ base outer h₀) (F : Fr h₀ L s.heap m) (X : (hd.heap_1 w.params).In h₀) (T : Top topProg loose mean mg mb h₀) (N : News h₀ L s.heap news)
    (hA : A.frames = some (env :: outer)) (hf : env.frame = some L) (hk : env.scope.kind = .function) (hroom : A.depth + 1 < recursionLimit)
    (hq : ∀ h' tk' e, MadeFault s.heap h' e → Fr h₀ L h' m → News h₀ L h' news → Q (.ref e) { s with heap := h', toks := tk' }) :
    wpAny (model PySem.Challenge.rw_on0310_01.row.prog w) A (call (.ref 44) [.str msg t1]) Q E s :=
  fault_call B F X T hA hf hk hroom fun h' tk' e hm => hq h' tk' e hm ⟨F.ns.keeps hm.keeps, fun b o q => hm.keeps _ _ (F.keep b o q), F.above⟩ fun p hp => ⟨hm.keeps _ _ (N p hp).1, (N p hp).2⟩
/-- a fault in flight: what stood (but the objects as) stands -/
structure FaultOut (as : List Addr) (l : List Env) (h : Heap) (e : Addr) (h' : Heap) : Prop where
  fly : ∃ B a0, (∀ b o, h.get? b = some o → b ∉ as → b ∉ l.filterMap (·.frame) → B.get? b = some o) ∧ Heap.FlyingW B l e (.ref 44) a0 h'
  slots : ∀ b o, h.get? b = some o → b ∉ as → (∀ vs, o.data ≠ .fields vs) → ∃ sl, h'.get? b = some { o with slots := sl }
theorem FaultOut.mono {as bs : List Addr} {l : List Env} {h g : Heap} {e : Addr} {h' : Heap} (x : FaultOut as l h e h') (k : ∀ b o, g.get? b = some o → b ∉ bs → h.get? b = some o ∧ b ∉ as) : FaultOut bs l g e h' := by
  obtain ⟨⟨B, a0, h1, h2⟩, h3⟩ := x
  exact ⟨⟨B, a0, fun b o e n q => h1 b o (k b o e n).1 (k b o e n).2 q, h2⟩, fun b o e n q => h3 b o (k b o e n).1 (k b o e n).2 q⟩

noncomputable def RaisableF (E : Value → Shared → Prop) (v : Value) (s₁ : Shared) : Prop := ∃ e t dd, v = .ref e ∧ FaultCls s₁.heap ∧ s₁.heap.get? e = some (excOb t dd) ∧ E (.ref e) s₁
section
variable {M : Model} {A : Around} {E : Value → Shared → Prop} {s : Shared} {env : Env}
theorem raise44 {x : Sem Value} {Q : Flow → Shared → Prop} (hh : A.handled = none) (h : wpAny M A x (RaisableF E) E s) : wpAny M A (raiseStmt env (some x) none) Q E s := by
  unfold raiseStmt
  refine wpAny_bind (wpAny_mono h (fun v s₁ h₁ => ?_) fun _ _ x => x)
  obtain ⟨e, t, dd, rfl, C, he, hE⟩ := h₁
  obtain ⟨a1, a2, a3, a4, a5, a6, a7, a8, a9, b1, b2, b3, b4, hC⟩ := C.c44
  obtain ⟨hp, g, d, tk, os⟩ := s₁
  have hcB : (Value.ref 44 :: excTail).contains (.type "BaseException") = true := by decide
  repeat (first | with_reducible refine wpAny_loadPart_at he ?_ | with_reducible refine wpAny_loadPart_at hC ?_ | (with_reducible refine wpAny_isSubtype_exc hC ?_; rw [hcB]) | wp_step)
  exact wpAny_raiseNew_none hh hE
theorem raise44_exec {x : Expr} {pos : Pos} {Q : Flow → Shared → Prop} (hh : A.handled = none) (h : wpAny M A (eval x env) (RaisableF E) E s) : wpAny M A (exec (.Raise (some x) none pos) env) Q E s := by
  rw [arm_exec_Raise]
  refine wpAny_bind (wpAny_standAt ?_)
  exact raise44 hh (wpAny_bind (wpAny_mono h (fun v s₁ h₁ => wpAny_bind (wpAny_standAt (wpAny_pure h₁))) fun _ _ x => x))
end

section
variable {M : Model} {A : Around} {E : Value → Shared → Prop} {s' : Shared} {base g g₂ h : Heap} {outer : List Env} {L a e : Addr} {m : Str → Option Value} {name : Str} {scope : Scope} {cd : Value} {Q : Unit → Shared → Prop}
theorem leave_fault (K : Below A base outer g) (hx : MadeFault h s'.heap e) (F : Fr g L h m)
    (hQ : ∀ h', FaultOut [] outer g e h' → Q () { s' with heap := h' }) (hk : scope.kind = .function) :
    wpAny M (A.deeper (envOf name scope L a cd)) (leaving (envOf name scope L a cd) (.ref e)) Q E s' := by
  have K' := K.push (name := name) (a := a) (cd := cd) F hk
  have hin : ∀ env ∈ (envOf name scope L a cd :: outer), ∀ b, env.frame = some b → b ∈ (envOf name scope L a cd :: outer).filterMap (·.frame) := fun env he b hb => List.mem_filterMap.mpr ⟨env, he, hb⟩
  obtain ⟨t, dd, he⟩ := hx.there
  have hLg : g.get? L = none := Heap.get?_none_of_le F.above
  refine wpAny_leaving_firstW (base := hideAll h ((envOf name scope L a cd :: outer).filterMap (·.frame))) (a0 := .ref t) K'.stack
    ((funFrames_hide K'.frames hin).of_keeps fun b o hb _ => ⟨o, hx.keeps b o hb, rfl⟩) rfl he (fun b o hb => hx.keeps b o (of_hideAll _ hb)) ?_ rfl rfl rfl fun h' hL => ?_
  · cases q : (hideAll h ((envOf name scope L a cd :: outer).filterMap (·.frame))).get? e with
    | none => rfl
    | some o => have := of_hideAll _ q; rw [hx.new] at this; cases this
  · obtain ⟨k1, ⟨_, _, k2⟩, k3, k4⟩ := hL
    refine hQ h' ⟨⟨_, .ref t, fun b o hb _ hn => hideAll_get _ (F.keep b o hb) fun hm => ?_, k1, ?_, k2, k3⟩, fun b o hb _ hn => k4 b o (hx.keeps _ _ (F.keep b o hb)) hn⟩
    · rcases List.mem_filterMap.mp hm with ⟨env, henv, hf⟩
      rcases List.mem_cons.mp henv with rfl | henv
      · have : L = b := Option.some.inj hf
        rw [← this, hLg] at hb; cases hb
      · exact hn (List.mem_filterMap.mpr ⟨env, henv, hf⟩)
    · cases q : (hideAll h ((envOf name scope L a cd :: outer).filterMap (·.frame))).get? e with
      | none => rfl
      | some o => have := of_hideAll _ q; rw [hx.new] at this; cases this

theorem leave_faultOn (K : Below A base outer g) (F : Fr g L g₂ m) (R : FaultOut [] (envOf name scope L a cd :: outer) g₂ e s'.heap)
    (hQ : ∀ h', FaultOut [] outer g e h' → Q () { s' with heap := h' }) :
    wpAny M (A.deeper (envOf name scope L a cd)) (leaving (envOf name scope L a cd) (.ref e)) Q E s' := by
  obtain ⟨⟨B, a0, hB, hfl⟩, hsl⟩ := R
  have hLg : g.get? L = none := Heap.get?_none_of_le F.above
  refine wpAny_leaves_onW (Around.frames_deeper K.stack) rfl hfl fun h' x1 x2 => hQ h' ⟨⟨B, a0, fun b o hb _ hn => hB b o (F.keep b o hb) (List.not_mem_nil) fun hm => ?_, x1⟩, fun b o hb _ hn => ?_⟩
  · rcases List.mem_filterMap.mp hm with ⟨env, henv, hf⟩
    rcases List.mem_cons.mp henv with rfl | henv
    · have : L = b := Option.some.inj hf
      rw [← this, hLg] at hb; cases hb
    · exact hn (List.mem_filterMap.mpr ⟨env, henv, hf⟩)
  · obtain ⟨sl, hsl'⟩ := hsl b o (F.keep b o hb) (List.not_mem_nil) hn
    obtain ⟨sl2, h2⟩ := x2 b { o with slots := sl } hsl' hn
    exact ⟨sl2, h2⟩
end
inductive KeptAll (w : World) (Z : List Addr) (h hid : Heap) : List Value → List Addr → List (Cfa × Rules) → Prop
  | nil : KeptAll w Z h hid [] [] []
  | skip {d : Addr} {vs : List Value} {ds : List Addr} {l : List (Cfa × Rules)} : d ∈ Z → (∃ o, h.get? d = some o) → KeptAll w Z h hid vs ds l → KeptAll w Z h hid vs (d :: ds) l
  | cons {a d : Addr} {n : Nat} {cv : Value} {c : Cfa} {f : Rules} {o : Obj} {kvs : List (Int × Value)} {vs : List Value} {ds : List Addr} {l : List (Cfa × Rules)} :
      hid.get? a = some (tupOb [cv, .ref d] n) → CfaIn hid cv c → h.get? d = some o → (d == sysModules) = false → o.IsDictOf (iK w) kvs → Bears hid kvs f → d ∉ Z → KeptAll w Z h hid vs ds l → KeptAll w Z h hid (.ref a :: vs) (d :: ds) ((c, f) :: l)
theorem KeptAll.imp {w : World} {Z : List Addr} {h hid h' hid' : Heap} {vs : List Value} {ds : List Addr} {l : List (Cfa × Rules)} (x : KeptAll w Z h hid vs ds l) (k : ∀ b o, hid.get? b = some o → hid'.get? b = some o) (kd : ∀ d ∈ ds, ∀ o, h.get? d = some o → h'.get? d = some o) :
    KeptAll w Z h' hid' vs ds l := by
  induction x with
  | nil => exact .nil
  | skip hz he _ ih => exact .skip hz (let ⟨o, e⟩ := he; ⟨o, kd _ (.head _) _ e⟩) (ih fun d hd => kd d (.tail _ hd))
  | cons h1 h2 h3 h4 h5 h6 h7 _ ih => exact .cons (k _ _ h1) (h2.keeps k) (kd _ (.head _) _ h3) h4 h5 (h6.keeps k) h7 (ih fun d hd => kd d (.tail _ hd))
theorem KeptAll.lens {w : World} {Z : List Addr} {h hid : Heap} {vs : List Value} {ds : List Addr} {l : List (Cfa × Rules)} (x : KeptAll w Z h hid vs ds l) : vs.length = l.length ∧ True := by
  induction x with
  | nil => exact ⟨rfl, trivial⟩
  | skip _ _ _ ih => exact ih
  | cons _ _ _ _ _ _ _ _ ih => exact ⟨by rw [List.length_cons, List.length_cons, ih.1], trivial⟩
theorem KeptAll.append {w : World} {Z : List Addr} {h hid : Heap} {vs vs' : List Value} {ds ds' : List Addr} {l l' : List (Cfa × Rules)} (x : KeptAll w Z h hid vs ds l) (y : KeptAll w Z h hid vs' ds' l') : KeptAll w Z h hid (vs ++ vs') (ds ++ ds') (l ++ l') := by
  induction x with
  | nil => exact y
  | skip hz he _ ih => exact .skip hz he ih
  | cons h1 h2 h3 h4 h5 h6 h7 _ ih => exact .cons h1 h2 h3 h4 h5 h6 h7 ih
inductive KeptLast (w : World) (Z : List Addr) (h hid : Heap) (vs : List Value) (ds : List Addr) (l : List (Cfa × Rules)) (c : Cfa) (f : Rules) : Prop
  | mk (vs' : List Value) (ds1 ds2 : List Addr) (a d : Addr) (n : Nat) (cv : Value) (o : Obj) (kvs : List (Int × Value)) : (vs = vs' ++ [.ref a]) → (ds = ds1 ++ d :: ds2) → (d ∉ Z) → (KeptAll w Z h hid vs' (ds1 ++ ds2) l) → (hid.get? a = some (tupOb [cv, .ref d] n)) → (CfaIn hid cv c) → (h.get? d = some o) → ((d == sysModules) = false) → (o.IsDictOf (iK w) kvs) → (Bears hid kvs f) → KeptLast w Z h hid vs ds l c f
theorem KeptAll.snoc' {w : World} {Z : List Addr} {h hid : Heap} {vs : List Value} {ds : List Addr} {L : List (Cfa × Rules)} (x : KeptAll w Z h hid vs ds L) : ∀ l c f, L = l ++ [(c, f)] →
    KeptLast w Z h hid vs ds l c f := by
  induction x with
  | nil => intro l c f e; simp at e
  | skip hz he _ ih =>
    intro l c f e
    obtain ⟨vs', ds1, ds2, a, d, n, cv, o, kvs, rfl, rfl, hd, k, r1, r2, r3, r4, r5, r6⟩ := ih l c f e
    exact ⟨vs', _ :: ds1, ds2, a, d, n, cv, o, kvs, rfl, rfl, hd, .skip hz he k, r1, r2, r3, r4, r5, r6⟩
  | cons h1 h2 h3 h4 h5 h6 h7 x ih =>
    intro l c f e
    cases l with
    | nil =>
      simp only [List.nil_append, List.cons.injEq, Prod.mk.injEq] at e
      obtain ⟨⟨rfl, rfl⟩, rfl⟩ := e
      have hv := List.eq_nil_of_length_eq_zero x.lens.1
      subst hv
      exact ⟨[], [], _, _, _, _, _, _, _, rfl, rfl, h7, x, h1, h2, h3, h4, h5, h6⟩
    | cons p l =>
      simp only [List.cons_append, List.cons.injEq] at e
      obtain ⟨rfl, e⟩ := e
      obtain ⟨vs', ds1, ds2, a, d, n, cv, o, kvs, rfl, rfl, hd, k, r1, r2, r3, r4, r5, r6⟩ := ih l c f e
      exact ⟨_ :: vs', _ :: ds1, ds2, a, d, n, cv, o, kvs, rfl, rfl, hd, .cons h1 h2 h3 h4 h5 h6 h7 k, r1, r2, r3, r4, r5, r6⟩

noncomputable abbrev selfD (q : Nat → Int × Tok) (n : Nat) (addr : Int) (t : Tok) (cv : Value) (rd fd kd wd : Addr) : Obj :=
  dictOf [ent (Str.ofString "address") (q 1) (.int addr t), ent (Str.ofString "cfa") (q 2) cv, ent (Str.ofString "rules") (q 3) (.ref rd), ent (Str.ofString "first") (q 4) (.ref fd), ent (Str.ofString "kept") (q 5) (.ref kd), ent (Str.ofString "rows") (q 6) (.ref wd)] n
/-- the parts of a reckoning, each opened at one stroke -/
inductive DctIn (h hid : Heap) (dx rd fd kd wd : Addr) (st : RS) : Prop
  | mk (q : Nat → Int × Tok) (n : Nat) (t : Tok) (cv : Value) : h.get? dx = some (selfD q n st.addr t cv rd fd kd wd) → CfaIn hid cv st.cfa → DctIn h hid dx rd fd kd wd st
inductive RlsIn (w : World) (h hid : Heap) (rd : Addr) (f : Rules) : Prop
  | mk (o : Obj) (kvs : List (Int × Value)) : h.get? rd = some o → (rd == sysModules) = false → o.IsDictOf (iK w) kvs → Bears hid kvs f → RlsIn w h hid rd f
inductive KptIn (w : World) (Z : List Addr) (h hid : Heap) (kd : Addr) (kds : List Addr) (l : List (Cfa × Rules)) : Prop
  | mk (vs : List Value) (n : Nat) : h.get? kd = some (listOf vs.toArray n) → KeptAll w Z h hid vs kds l → KptIn w Z h hid kd kds l
inductive RwsIn (w : World) (h hid : Heap) (wd : Addr) (l : List Row) : Prop
  | mk (vs : List Value) (n : Nat) : h.get? wd = some (listOf vs.toArray n) → All2 (RowIn w hid) vs l → RwsIn w h hid wd l
structure SelfIn (w : World) (Z : List Addr) (h : Heap) (x dx rd fd kd wd : Addr) (kds : List Addr) (st : RS) : Prop where
  obj : h.get? x = some (instObj 119 dx)
  dct : DctIn h (hideAll h (x :: dx :: rd :: kd :: wd :: kds)) dx rd fd kd wd st
  rls : RlsIn w h (hideAll h (x :: dx :: rd :: kd :: wd :: kds)) rd st.rules
  fst : RulesAt w (hideAll h (x :: dx :: rd :: kd :: wd :: kds)) fd st.first
  kpt : KptIn w Z h (hideAll h (x :: dx :: rd :: kd :: wd :: kds)) kd kds st.kept
  rws : RwsIn w h (hideAll h (x :: dx :: rd :: kd :: wd :: kds)) wd st.rows
  apart : (x :: dx :: rd :: kd :: wd :: kds).Nodup
  zs : ∀ z ∈ Z, z ∈ kds

/-- hidden objects: from one heap to a later one -/
theorem hide_mono {h h' : Heap} {as bs : List Addr} (k : ∀ b o, h.get? b = some o → b ∉ as → h'.get? b = some o ∧ b ∉ bs) : ∀ b o, (hideAll h as).get? b = some o → (hideAll h' bs).get? b = some o := fun b o e => by
  have h1 := of_hideAll _ e
  have h2 : b ∉ as := fun q => by rw [hideAll_none _ q] at e; cases e
  exact hideAll_get _ (k b o h1 h2).1 (k b o h1 h2).2
theorem isTup_of {g : Heap} {a : Addr} {vs : List Value} {n : Nat} (e : g.get? a = some (tupOb vs n)) : IsTup g a vs.toArray := ⟨_, e, rfl, n, rfl⟩
theorem tup2 {g g₂ h : Heap} {L L₁ a : Addr} {m m₁ : Str → Option Value} {items : Array Value} (F : Fr g₂ L h m) (G : Fr g L₁ g₂ m₁) (t : IsTup g a items) : IsTup h a items := (t.keeps G.keep).keeps F.keep
theorem tup3 {g g₁ g₂ h : Heap} {L L₁ L₂ a : Addr} {m m₁ m₂ : Str → Option Value} {items : Array Value} (F : Fr g₂ L h m) (G : Fr g₁ L₁ g₂ m₁) (H : Fr g L₂ g₁ m₂) (t : IsTup g a items) : IsTup h a items := ((t.keeps H.keep).keeps G.keep).keeps F.keep
theorem put_address {q0 q1 q2 q3 q4 q5 : Int × Tok} {v0 v1 v2 v3 v4 v5 key v : Value} {hs : Int} {n : Nat} : (putL (Str.ofString "address") hs key v [ent (Str.ofString "address") q0 v0, ent (Str.ofString "cfa") q1 v1, ent (Str.ofString "rules") q2 v2, ent (Str.ofString "first") q3 v3, ent (Str.ofString "kept") q4 v4, ent (Str.ofString "rows") q5 v5], putN (Str.ofString "address") [ent (Str.ofString "address") q0 v0, ent (Str.ofString "cfa") q1 v1, ent (Str.ofString "rules") q2 v2, ent (Str.ofString "first") q3 v3, ent (Str.ofString "kept") q4 v4, ent (Str.ofString "rows") q5 v5] n) = ([ent (Str.ofString "address") q0 v, ent (Str.ofString "cfa") q1 v1, ent (Str.ofString "rules") q2 v2, ent (Str.ofString "first") q3 v3, ent (Str.ofString "kept") q4 v4, ent (Str.ofString "rows") q5 v5], n) := rfl
theorem put_cfa {q0 q1 q2 q3 q4 q5 : Int × Tok} {v0 v1 v2 v3 v4 v5 key v : Value} {hs : Int} {n : Nat} : (putL (Str.ofString "cfa") hs key v [ent (Str.ofString "address") q0 v0, ent (Str.ofString "cfa") q1 v1, ent (Str.ofString "rules") q2 v2, ent (Str.ofString "first") q3 v3, ent (Str.ofString "kept") q4 v4, ent (Str.ofString "rows") q5 v5], putN (Str.ofString "cfa") [ent (Str.ofString "address") q0 v0, ent (Str.ofString "cfa") q1 v1, ent (Str.ofString "rules") q2 v2, ent (Str.ofString "first") q3 v3, ent (Str.ofString "kept") q4 v4, ent (Str.ofString "rows") q5 v5] n) = ([ent (Str.ofString "address") q0 v0, ent (Str.ofString "cfa") q1 v, ent (Str.ofString "rules") q2 v2, ent (Str.ofString "first") q3 v3, ent (Str.ofString "kept") q4 v4, ent (Str.ofString "rows") q5 v5], n) := rfl
theorem put_rules {q0 q1 q2 q3 q4 q5 : Int × Tok} {v0 v1 v2 v3 v4 v5 key v : Value} {hs : Int} {n : Nat} : (putL (Str.ofString "rules") hs key v [ent (Str.ofString "address") q0 v0, ent (Str.ofString "cfa") q1 v1, ent (Str.ofString "rules") q2 v2, ent (Str.ofString "first") q3 v3, ent (Str.ofString "kept") q4 v4, ent (Str.ofString "rows") q5 v5], putN (Str.ofString "rules") [ent (Str.ofString "address") q0 v0, ent (Str.ofString "cfa") q1 v1, ent (Str.ofString "rules") q2 v2, ent (Str.ofString "first") q3 v3, ent (Str.ofString "kept") q4 v4, ent (Str.ofString "rows") q5 v5] n) = ([ent (Str.ofString "address") q0 v0, ent (Str.ofString "cfa") q1 v1, ent (Str.ofString "rules") q2 v, ent (Str.ofString "first") q3 v3, ent (Str.ofString "kept") q4 v4, ent (Str.ofString "rows") q5 v5], n) := rfl
theorem put_first {q0 q1 q2 q3 q4 q5 : Int × Tok} {v0 v1 v2 v3 v4 v5 key v : Value} {hs : Int} {n : Nat} : (putL (Str.ofString "first") hs key v [ent (Str.ofString "address") q0 v0, ent (Str.ofString "cfa") q1 v1, ent (Str.ofString "rules") q2 v2, ent (Str.ofString "first") q3 v3, ent (Str.ofString "kept") q4 v4, ent (Str.ofString "rows") q5 v5], putN (Str.ofString "first") [ent (Str.ofString "address") q0 v0, ent (Str.ofString "cfa") q1 v1, ent (Str.ofString "rules") q2 v2, ent (Str.ofString "first") q3 v3, ent (Str.ofString "kept") q4 v4, ent (Str.ofString "rows") q5 v5] n) = ([ent (Str.ofString "address") q0 v0, ent (Str.ofString "cfa") q1 v1, ent (Str.ofString "rules") q2 v2, ent (Str.ofString "first") q3 v, ent (Str.ofString "kept") q4 v4, ent (Str.ofString "rows") q5 v5], n) := rfl
theorem up_of {h g h' : Heap} {L' : Addr} {m' : Str → Option Value} {x dx rd kd wd : Addr} {kds own' : List Addr} (hg : ∀ b o, b ∉ [x, dx, rd, kd, wd] → h.get? b = some o → g.get? b = some o) (F : Fr g L' h' m')
    (ho : ∀ a ∈ own', a ∈ x :: dx :: rd :: kd :: wd :: kds ∨ h.get? a = none) : ∀ b o, (hideAll h (x :: dx :: rd :: kd :: wd :: kds)).get? b = some o → (hideAll h' own').get? b = some o :=
  hide_mono fun b o e hb => ⟨F.keep _ _ (hg b o (fun hm => hb (by simp only [List.mem_cons, List.not_mem_nil, or_false] at hm ⊢; rcases hm with r | r | r | r | r <;> simp [r])) e), fun hm => by
    rcases ho b hm with q | q
    · exact hb q
    · rw [e] at q; cases q⟩
theorem new_hid {h' : Heap} {x dx rd kd wd D : Addr} {o : Obj} {kds : List Addr} (he : h'.get? D = some o) (h1 : @Ne Nat D x) (h2 : @Ne Nat D dx) (h3 : @Ne Nat D rd) (h4 : @Ne Nat D kd) (h5 : @Ne Nat D wd) (hk : D ∉ kds) :
    (hideAll h' (x :: dx :: rd :: kd :: wd :: kds)).get? D = some o := by
  refine hideAll_get _ he fun hm => ?_
  simp only [List.mem_cons] at hm
  rcases hm with r | r | r | r | r | r
  · exact h1 r
  · exact h2 r
  · exact h3 r
  · exact h4 r
  · exact h5 r
  · exact hk r
theorem KeptAll.there {w : World} {Z : List Addr} {h hid : Heap} {vs : List Value} {ds : List Addr} {l : List (Cfa × Rules)} (x : KeptAll w Z h hid vs ds l) : ∀ d ∈ ds, ∃ o, h.get? d = some o := by
  induction x with
  | nil => intro d hd; cases hd
  | skip _ he _ ih =>
    intro d hd
    rcases List.mem_cons.mp hd with rfl | hd
    · exact he
    · exact ih d hd
  | cons _ _ h3 _ _ _ _ _ ih =>
    intro d hd
    rcases List.mem_cons.mp hd with rfl | hd
    · exact ⟨_, h3⟩
    · exact ih d hd
theorem off_kds {w : World} {Z : List Addr} {h hid g : Heap} {vs : List Value} {x dx rd kd wd D : Addr} {kds : List Addr} {l : List (Cfa × Rules)} (k : KeptAll w Z h hid vs kds l) (hg : ∀ b o, b ∉ [x, dx, rd, kd, wd] → h.get? b = some o → g.get? b = some o)
    (nek : ∀ d ∈ kds, d ≠ x ∧ d ≠ dx ∧ d ≠ rd ∧ d ≠ kd ∧ d ≠ wd) (hD : g.get? D = none) : D ∉ kds := fun hm => by
  obtain ⟨o, ho⟩ := k.there D hm
  obtain ⟨a1, a2, a3, a4, a5⟩ := nek D hm
  rw [hg D o (by simp [a1, a2, a3, a4, a5]) ho] at hD
  cases hD
theorem kds_kept {h g h' : Heap} {L' : Addr} {m' : Str → Option Value} {x dx rd kd wd : Addr} {kds : List Addr} (hg : ∀ b o, b ∉ [x, dx, rd, kd, wd] → h.get? b = some o → g.get? b = some o) (F : Fr g L' h' m')
    (nek : ∀ d ∈ kds, d ≠ x ∧ d ≠ dx ∧ d ≠ rd ∧ d ≠ kd ∧ d ≠ wd) : ∀ d ∈ kds, ∀ o, h.get? d = some o → h'.get? d = some o := fun d hd o e => by
  obtain ⟨a1, a2, a3, a4, a5⟩ := nek d hd
  exact F.keep _ _ (hg d o (by simp [a1, a2, a3, a4, a5]) e)
theorem va_nil (k' : Int) : valueAt ([] : List (Int × Value)) k' = none := rfl
theorem va_cons (p : Int × Value) (kvs : List (Int × Value)) (k' : Int) : valueAt (p :: kvs) k' = if p.1 = k' then some p.2 else valueAt kvs k' := by
  simp only [valueAt, List.find?_cons]
  by_cases h : p.1 = k' <;> simp [h]
theorem va_map (k : Int) (v : Value) (k' : Int) : ∀ kvs : List (Int × Value), valueAt (kvs.map fun kv => if kv.1 = k then (kv.1, v) else kv) k' = if k' = k then (if kvs.any (fun kv => decide (kv.1 = k)) = true then some v else none) else valueAt kvs k'
  | [] => by by_cases h : k' = k <;> simp [h, va_nil]
  | p :: kvs => by
    rw [List.map_cons, va_cons, va_map k v k' kvs, va_cons, List.any_cons]
    by_cases hp : p.1 = k
    · rw [if_pos hp]
      by_cases hk : k' = k
      · simp [hp, hk]
      · have : ¬ p.1 = k' := fun e => hk (e.symm.trans hp)
        simp [hk, this]
    · rw [if_neg hp]
      by_cases hk : k' = k
      · subst hk
        simp only [if_true, decide_eq_false hp, Bool.false_or, if_neg hp]
      · simp [hk]
theorem va_append (kvs : List (Int × Value)) (k : Int) (v : Value) (k' : Int) : valueAt (kvs ++ [(k, v)]) k' = (match valueAt kvs k' with | some x => some x | none => if k = k' then some v else none) := by
  induction kvs with
  | nil => simp [va_cons, va_nil]
  | cons p kvs ih =>
    rw [List.cons_append, va_cons, va_cons, ih]
    by_cases h : p.1 = k' <;> simp [h]
theorem va_any (kvs : List (Int × Value)) (k : Int) : kvs.any (fun kv => decide (kv.1 = k)) = (valueAt kvs k).isSome := by
  induction kvs with
  | nil => rfl
  | cons p kvs ih =>
    rw [List.any_cons, va_cons, ih]
    by_cases h : p.1 = k <;> simp [h]
theorem va_stored (kvs : List (Int × Value)) (k : Int) (v : Value) (k' : Int) : valueAt (stored kvs k v) k' = if k' = k then some v else valueAt kvs k' := by
  unfold stored
  by_cases h : kvs.any (fun kv => decide (kv.1 = k)) = true
  · rw [if_pos h, va_map, if_pos h]
  · rw [if_neg h, va_append]
    rw [va_any] at h
    by_cases hk : k' = k
    · subst hk
      cases hv : valueAt kvs k' with
      | none => simp
      | some x => rw [hv] at h; exact absurd rfl h
    · have : ¬ k = k' := fun e => hk e.symm
      cases valueAt kvs k' <;> simp [hk, this]
theorem va_without (k : Int) (k' : Int) : ∀ kvs : List (Int × Value), valueAt (without kvs k) k' = if k' = k then none else valueAt kvs k'
  | [] => by simp [without, va_nil]
  | p :: kvs => by
    have ih := va_without k k' kvs
    simp only [without, List.filter_cons] at ih ⊢
    by_cases hp : p.1 = k
    · simp only [hp, ne_eq, not_true, decide_false, Bool.false_eq_true, if_false]
      rw [ih, va_cons, hp]
      by_cases hk : k' = k
      · simp [hk]
      · have : ¬ k = k' := fun e => hk e.symm
        simp [hk, this]
    · simp only [ne_eq, hp, not_false_eq_true, decide_true, if_true]
      rw [va_cons, va_cons, ih]
      by_cases hk : k' = k
      · have : ¬ p.1 = k' := fun e => hp (e.trans hk)
        simp [hk, hp]
      · simp [hk]
theorem mem_stored {kvs : List (Int × Value)} {k : Int} {v : Value} {p : Int × Value} (h : p ∈ stored kvs k v) : p.1 = k ∨ ∃ q ∈ kvs, q.1 = p.1 := by
  unfold stored at h
  split at h
  · obtain ⟨q, hq, rfl⟩ := List.mem_map.mp h
    split
    · rename_i e; exact .inl e
    · exact .inr ⟨q, hq, rfl⟩
  · rcases List.mem_append.mp h with h | h
    · exact .inr ⟨p, h, rfl⟩
    · rw [List.mem_singleton.mp h]; exact .inl rfl
theorem Bears.put {hid : Heap} {kvs : List (Int × Value)} {f : Rules} {m : Int} {v : Value} {r : Rule} (x : Bears hid kvs f) (hv : RuleIn hid v r) (hm : 0 ≤ m ∧ m < 4) : Bears hid (stored kvs m v) (put f m r) := by
  refine ⟨fun k u e => ?_, fun k e => ?_, fun p hp => ?_⟩
  · rw [va_stored] at e
    unfold Mine.put
    by_cases hk : k = m
    · rw [if_pos hk] at e ⊢
      cases e
      exact ⟨r, rfl, hv⟩
    · rw [if_neg hk] at e ⊢
      exact x.val k u e
  · rw [va_stored] at e
    unfold Mine.put
    by_cases hk : k = m
    · rw [if_pos hk] at e; cases e
    · rw [if_neg hk] at e ⊢
      exact x.dom k e
  · rcases mem_stored hp with e | ⟨q, hq, e⟩
    · rw [e]; exact hm
    · rw [← e]; exact x.keys q hq
theorem Bears.del {hid : Heap} {kvs : List (Int × Value)} {f : Rules} {m : Int} (x : Bears hid kvs f) : Bears hid (without kvs m) (fun k => if k = m then none else f k) := by
  refine ⟨fun k u e => ?_, fun k e => ?_, fun p hp => x.keys p (List.mem_filter.mp hp).1⟩
  · rw [va_without] at e
    by_cases hk : k = m
    · rw [if_pos hk] at e; cases e
    · rw [if_neg hk] at e
      obtain ⟨r, h1, h2⟩ := x.val k u e
      exact ⟨r, by simpa [hk] using h1, h2⟩
  · rw [va_without] at e
    by_cases hk : k = m
    · simp [hk]
    · rw [if_neg hk] at e
      simpa [hk] using x.dom k e
theorem few_keys {kvs : List (Int × Value)} (hn : (kvs.map (·.1)).Nodup) (hk : ∀ p ∈ kvs, 0 ≤ p.1 ∧ p.1 < 4) : kvs.length ≤ 4 := by
  have h : (kvs.map (·.1)).length ≤ ([0, 1, 2, 3] : List Int).length := by
    refine List.Nodup.length_le_of_subset hn fun a ha => ?_
    obtain ⟨p, hp, rfl⟩ := List.mem_map.mp ha
    have := hk p hp
    simp only [List.mem_cons, List.not_mem_nil, or_false]
    omega
  simpa using h
section
variable {prog : Program} {w : World} {A : Around} {E : Value → Shared → Prop} {s : Shared} {value slice : Expr} {t : Addr} {u : Tok} {a b c : Value} {rest : List Value} {Q : Value → Shared → Prop}
theorem tup_item0 (ht : IsTup s.heap t (a :: rest).toArray) (h : Q a s)
    (hs : subscripted slice false (.ref t) (.int 0 u) = operate [.ref t, .int 0 u] (getItem (.ref t) (.int 0 u))) (hg : ∀ r, letTemporaryGo value (.ref t) r = pure ()) :
    wpAny (model prog w) A (subscriptTail value slice (.ref t) (.int 0 u)) Q E s :=
  item_tuple (j := 0) (x := a) ht (by decide) (by decide) (by simp [seqIndex?]) (by simp) h hs hg
theorem tup_item1 (ht : IsTup s.heap t (a :: b :: rest).toArray) (h : Q b s)
    (hs : subscripted slice false (.ref t) (.int 1 u) = operate [.ref t, .int 1 u] (getItem (.ref t) (.int 1 u))) (hg : ∀ r, letTemporaryGo value (.ref t) r = pure ()) :
    wpAny (model prog w) A (subscriptTail value slice (.ref t) (.int 1 u)) Q E s :=
  item_tuple (j := 1) (x := b) ht (by decide) (by decide) (by simp [seqIndex?]; omega) (by simp) h hs hg
end
section
variable {prog : Program} {w : World} {A : Around} {E : Value → Shared → Prop} {s : Shared} {h₀ : Heap} {L d : Addr} {m : Str → Option Value} {news : List (Addr × Obj)} {gn : Obj → List (Addr × Obj)} {o : Obj} {kvs : List (Int × Value)} {k : Int} {t : Tok} {v dflt : Value}
theorem rset_K {Q : Unit → Shared → Prop} (F : Fr h₀ L s.heap m) (N : News h₀ L s.heap news) (U : UpdF d o news gn) (hd : o.IsDictOf (intKind prog w) kvs) (hsz : kvs.length ≤ sizeLine)
    (h : ∀ h' o', Fr h₀ L h' m → News h₀ L h' (gn o') → o'.IsDictOf (intKind prog w) (stored kvs k v) → Q () { s with heap := h', toks := s.toks + 1 }) : wpAny (model prog w) A (setItem (.ref d) (.int k t) v) Q E s :=
  kda_set F N U hd (intKind_is prog w k t) hsz h
theorem rpop_none {Q : Value → Shared → Prop} (N : News h₀ L s.heap news) (hm : (d, o) ∈ news) (lo : (d == sysModules) = false) (hd : o.IsDictOf (intKind prog w) kvs) (hl : valueAt kvs k = none)
    (h : Q dflt { s with toks := s.toks + 1 }) : wpAny (model prog w) A (call (.builtin "dict.pop") [.ref d, .int k t, dflt]) Q E s := by
  have hD : s.heap.DictOf (intKind prog w) d kvs := Heap.dictOf_iff.mpr ⟨o, (N _ hm).1, hd⟩
  exact call_meetsIn PySem.F.slot_dict_pop hD.typeIs PySem.F.entry_dict_pop (PySem.F.args_dict_pop_3 _ _ _) (meets_dict_pop_default (intKind prog w) d (intKind_is prog w k t) lo (by rfl) dflt) ⟨kvs, hD, hl, h⟩
theorem rpop_some {Q : Value → Shared → Prop} (F : Fr h₀ L s.heap m) (N : News h₀ L s.heap news) (U : UpdF d o news gn) (hd : o.IsDictOf (intKind prog w) kvs) (hl : valueAt kvs k = some v) (hsz : kvs.length ≤ sizeLine)
    (h : ∀ h' o', Fr h₀ L h' m → News h₀ L h' (gn o') → o'.IsDictOf (intKind prog w) (without kvs k) → Q v { s with heap := h', toks := s.toks + 1 }) : wpAny (model prog w) A (call (.builtin "dict.pop") [.ref d, .int k t, dflt]) Q E s :=
  kob_pop F N U hd (intKind_is prog w k t) (.inr ⟨_, rfl⟩) (by rfl) (PySem.F.args_dict_pop_3 _ _ _) hl hsz h
theorem without_none {kvs : List (Int × Value)} {k : Int} (hl : valueAt kvs k = none) : without kvs k = kvs :=
  List.filter_eq_self.mpr fun p hp => decide_eq_true fun e => by
    have h1 := va_any kvs k
    rw [hl, List.any_eq_true.mpr ⟨p, hp, decide_eq_true e⟩] at h1
    cases h1
theorem rpop_any {Q : Value → Shared → Prop} (F : Fr h₀ L s.heap m) (N : News h₀ L s.heap news) (U : UpdF d o news gn) (lo : (d == sysModules) = false) (hd : o.IsDictOf (intKind prog w) kvs) (hsz : kvs.length ≤ sizeLine)
    (h : ∀ v' h' o', Fr h₀ L h' m → News h₀ L h' (gn o') → o'.IsDictOf (intKind prog w) (without kvs k) → Q v' { s with heap := h', toks := s.toks + 1 }) : wpAny (model prog w) A (call (.builtin "dict.pop") [.ref d, .int k t, dflt]) Q E s := by
  cases hl : valueAt kvs k with
  | some v => exact rpop_some F N U hd hl hsz fun h' o' => h v h' o'
  | none =>
    obtain ⟨pre, post, e, hg, a, b⟩ := U.split
    have hm : (d, o) ∈ news := e ▸ List.mem_append.mpr (.inr (.head _))
    exact rpop_none N hm lo hd hl (h _ s.heap o F (by rw [hg, ← e]; exact N) (by rw [without_none hl]; exact hd))
theorem rin_K {Q : Value → Shared → Prop} {bb : Bool} (he : s.heap.get? d = some o) (lo : (d == sysModules) = false) (hd : o.IsDictOf (intKind prog w) kvs) (hl : (valueAt kvs k).isSome = bb)
    (h : Q (.bool bb) { s with toks := s.toks + 1 }) : wpAny (model prog w) A (compareOp .In (.int k t) (.ref d)) Q E s :=
  wpAny_in_of (intKind_is prog w k t) lo (Heap.DictOf.mapOf (Heap.dictOf_iff.mpr ⟨o, he, hd⟩)) (by rw [hl]; exact h)
theorem rin_none {Q : Value → Shared → Prop} (he : s.heap.get? d = some o) (lo : (d == sysModules) = false) (hd : o.IsDictOf (intKind prog w) kvs) (hl : valueAt kvs k = none)
    (h : Q (.bool false) { s with toks := s.toks + 1 }) : wpAny (model prog w) A (compareOp .In (.int k t) (.ref d)) Q E s := rin_K he lo hd (by rw [hl]; rfl) h
theorem rin_some {Q : Value → Shared → Prop} (he : s.heap.get? d = some o) (lo : (d == sysModules) = false) (hd : o.IsDictOf (intKind prog w) kvs) (hl : valueAt kvs k = some v)
    (h : Q (.bool true) { s with toks := s.toks + 1 }) : wpAny (model prog w) A (compareOp .In (.int k t) (.ref d)) Q E s := rin_K he lo hd (by rw [hl]; rfl) h
theorem ritem_K {value slice : Expr} {Q : Value → Shared → Prop} (he : s.heap.get? d = some o) (hd : o.IsDictOf (intKind prog w) kvs) (hl : valueAt kvs k = some v) (h : Q v { s with toks := s.toks + 1 })
    (hs : subscripted slice false (.ref d) (.int k t) = operate [.ref d, .int k t] (getItem (.ref d) (.int k t))) (hg : ∀ r, letTemporaryGo value (.ref d) r = pure ()) :
    wpAny (model prog w) A (subscriptTail value slice (.ref d) (.int k t)) Q E s := by
  have hD : s.heap.DictOf (intKind prog w) d kvs := Heap.dictOf_iff.mpr ⟨o, he, hd⟩
  exact subscriptTail_builtin hD.typeIs slot_dict_getitem.lookup (wpAny_getItem_of (intKind_is prog w k t) hD.mapOf hl h) hs hg
theorem rcopy_K {Q : Value → Shared → Prop} (F : Fr h₀ L s.heap m) (N : News h₀ L s.heap news) (hbig : h₀.NoLimit) (he : s.heap.get? d = some o) (lo : (d == sysModules) = false) (hd : o.IsDictOf (intKind prog w) kvs) (hsz : kvs.length ≤ sizeLine)
    (h : ∀ D h' o', Fr h₀ L h' m → News h₀ L h' ((D, o') :: news) → (D == sysModules) = false → o'.IsDictOf (intKind prog w) kvs → (∀ p ∈ news, p.1 < D) → s.heap.get? D = none → Q (.ref D) { s with heap := h' }) : wpAny (model prog w) A (call (.type "dict") [.ref d]) Q E s := by
  refine kt_call_dict lo (Heap.dictOf_iff.mpr ⟨o, he, hd⟩) hsz fun h' hD hs => ?_
  obtain ⟨o', ho', hd'⟩ := Heap.dictOf_iff.mp hD
  have k1 : ∀ b ob, s.heap.get? b = some ob → h'.get? b = some ob := fun b ob e => (hs.2 b (Nat.ne_of_lt (Heap.lt_size e))).trans (Heap.get?_push_of_some _ e)
  have hnone : s.heap.get? s.heap.objs.size = none := Heap.get?_none_of_le (Nat.le_refl _)
  refine h _ h' o' ⟨F.ns.keeps k1, fun b ob e => k1 _ _ (F.keep _ _ e), F.above⟩ ?_ (F.notModules (modules_low hbig)) hd' (fun p hp => Heap.lt_size (N p hp).1) hnone
  exact News.after (as := []) F N (fun b ob _ e => k1 b ob e) fun p hp => by
    rcases List.mem_cons.mp hp with rfl | hp
    · exact .inr ⟨ho', .inr hnone⟩
    · exact .inl ⟨hp, List.not_mem_nil⟩
end
theorem get1 {g h : Heap} {L a : Addr} {m : Str → Option Value} {o : Obj} (F : Fr g L h m) (e : g.get? a = some o) : h.get? a = some o := F.keep _ _ e
theorem get2 {g g₂ h : Heap} {L L₁ a : Addr} {m m₁ : Str → Option Value} {o : Obj} (F : Fr g₂ L h m) (G : Fr g L₁ g₂ m₁) (e : g.get? a = some o) : h.get? a = some o := F.keep _ _ (G.keep _ _ e)
theorem get3 {g g₁ g₂ h : Heap} {L L₁ L₂ a : Addr} {m m₁ m₂ : Str → Option Value} {o : Obj} (F : Fr g₂ L h m) (G : Fr g₁ L₁ g₂ m₁) (H : Fr g L₂ g₁ m₂) (e : g.get? a = some o) : h.get? a = some o := F.keep _ _ (G.keep _ _ (H.keep _ _ e))
theorem len_without {kvs : List (Int × Value)} {k : Int} {n : Nat} (h : kvs.length ≤ n) : (without kvs k).length ≤ n := Nat.le_trans (List.length_filter_le _ _) h
theorem isDict_nodup {prog : Program} {w : World} {o : Obj} {kvs : List (Int × Value)} (h : o.IsDictOf (intKind prog w) kvs) : (kvs.map (·.1)).Nodup := let ⟨_, _, _, _, _, _, hn⟩ := h; hn
theorem lines_D5 : True := by
  k_with_none
  (k_with "execs cons" => (k_here; first | ((fail_if_success (fail_if_success k_gentoks)); (refine tok_letter ?_); intro tk) | ((fail_if_success (with_reducible show wpAny _ _ _ (Behind _) _ _)); (with_reducible refine Q_letter ?_); intro Q9 hQ9) | (with_reducible refine execs_one ?_) | (with_reducible refine execs_cons_L ?_; intro Q9 hQ9)))
  (k_with "Behind" => ((rename (∀ f s', _ → Behind _ f s') => hB9); first | ((with_reducible refine hB9 _ _ ?_); (try dsimp only)) | (clear hB9; k_extra "Behind")))
  (k_with "BehindE" => ((rename (∀ e s', _ → BehindE _ e s') => hB9); first | ((with_reducible refine hB9 _ _ ?_); (try dsimp only)) | (clear hB9; k_extra "BehindE")))
  (k_with "m letter" => (first | (with_reducible show wpAny _ _ _ (Behind _) (BehindE _) _) | (with_reducible show wpAny _ _ _ _ (BehindE _) _; refine Q_letter ?_; intro Q9 hQ9) | (with_reducible refine QE_letter (by passes_own) ?_; intro Q9 E9 hQ9 hE9 hP9) | (refine Q_letter ?_; intro Q9 hQ9)))
  (k_with "call ref" => (k_here; (with_reducible show wpAny _ _ (call (Value.ref 44) [Value.str _ _]) _ _ _); k_dflt (refine' fault_call_K ?BzD51 ?FzD51 ?XzD51 ?TzD51 ?NzD51 ?AzD51 ?fzD51 ?kzD51 ?rzD51 ?_; (case BzD51 => k_asm); (case FzD51 => k_asm); (case XzD51 => k_asm); (case TzD51 => k_asm); (case NzD51 => k_asm); (case AzD51 => exact rfl); (case fzD51 => exact rfl); (case kzD51 => exact rfl); (case rzD51 => k_room); k_whole); intro _ _ _ _ _ _; (try dsimp only)))
  (k_with "exec Raise some none" => (k_here; k_dflt (refine raise44_exec rfl ?_)))
  (k_with "RaisableF" => ((rename MadeFault _ _ _ => hM9); obtain ⟨t9, dd9, he9⟩ := MadeFault.there hM9; refine ⟨_, _, _, rfl, faultCls (Frag.In.keeps (by k_asm) (Fr.keep (by k_asm))), he9, ?_⟩; clear he9))
  (k_with "leaving ref" => (k_here; (with_reducible show wpAny _ (Around.deeper _ (envOf _ _ _ _ _)) _ _ _ _); first | ((rename FaultOut _ _ _ _ _ => hR9); refine leave_faultOn (by assumption) (by assumption) hR9 ?_; intro h9 R9) | ((rename MadeFault _ _ _ => hM9); refine leave_fault (by assumption) hM9 (by assumption) ?_ rfl; intro _ _)))
  (k_with "setItem ref int" => (k_here; (with_reducible show wpAny _ _ (setItem (Value.ref _) (Value.int _ _) _) _ _ _); k_dflt (refine' rset_K ?FzD55 ?NzD55 ?UzD55 ?dzD55 ?zzD55 ?_; (case FzD55 => k_asm); (case NzD55 => k_asm); (case UzD55 => k_updF); (case dzD55 => assumption); (case zzD55 => ktr_units); k_whole); intro _ _ _ _ _))
  (k_with "call builtin:dict.pop" => (k_here; k_dflt (first | (refine' rpop_none ?NzD56 ?mzD56 ?lzD56 ?dzD56 ?vzD56 ?_; (case NzD56 => k_asm); (case mzD56 => k_mem); (case lzD56 => assumption); (case dzD56 => assumption); (case vzD56 => assumption); k_whole) | (refine' rpop_some ?FzD56 ?NzD56 ?UzD56 ?dzD56 ?vzD56 ?zzD56 ?_; (case FzD56 => k_asm); (case NzD56 => k_asm); (case UzD56 => k_updF); (case dzD56 => assumption); (case vzD56 => assumption); (case zzD56 => ktr_units); k_whole; intro _ _ _ _ _))))
  (k_with "compareOp In int ref" => (k_here; k_dflt (first | (refine' rin_none ?ezD57 ?lzD57 ?dzD57 ?vzD57 ?_; (case ezD57 => ktr_unf); (case lzD57 => assumption); (case dzD57 => assumption); (case vzD57 => assumption); k_whole) | (refine' rin_some ?ezD57 ?lzD57 ?dzD57 ?vzD57 ?_; (case ezD57 => ktr_unf); (case lzD57 => assumption); (case dzD57 => assumption); (case vzD57 => assumption); k_whole))))
  (k_with "subscriptTail" => (k_here; (with_reducible show wpAny _ _ (subscriptTail _ _ (Value.ref _) (Value.int _ _)) _ _ _); k_dflt (refine' ritem_K ?ezD58 ?dzD58 ?vzD58 ?_ (by with_unfolding_all rfl) (by intro _; with_unfolding_all rfl); (case ezD58 => ktr_unf); (case dzD58 => assumption); (case vzD58 => assumption); k_whole)))
  (k_with "call type:dict" => (k_here; (with_reducible show wpAny _ _ (call (Value.type "dict") [Value.ref _]) _ _ _); k_dflt (refine' rcopy_K ?FzD59 ?NzD59 ?bzD59 ?ezD59 ?lzD59 ?dzD59 ?zzD59 ?_; (case FzD59 => k_asm); (case NzD59 => k_asm); (case bzD59 => exact Top.nolimit (by assumption)); (case ezD59 => ktr_unf); (case lzD59 => assumption); (case dzD59 => assumption); (case zzD59 => ktr_units); k_whole); intro _ _ _ _ _ _ _ l9 _; (try k_lt l9)))
  (k_with "subscriptTail" => (k_here; (with_reducible show wpAny _ _ (subscriptTail _ _ (Value.ref _) (Value.int 0 _)) _ _ _); k_dflt (refine' tup_item0 ?tzD510 ?_ (by with_unfolding_all rfl) (by intro _; with_unfolding_all rfl); (case tzD510 => ktr_rel); k_whole)))
  (k_with "subscriptTail" => (k_here; (with_reducible show wpAny _ _ (subscriptTail _ _ (Value.ref _) (Value.int 1 _)) _ _ _); k_dflt (refine' tup_item1 ?tzD511 ?_ (by with_unfolding_all rfl) (by intro _; with_unfolding_all rfl); (case tzD511 => ktr_rel); k_whole)))
  (k_with "exec If" => (k_here; (with_reducible show wpAny _ _ (exec (Stmt.If (PySem.Expr.Compare (PySem.Expr.Name _ _) [CmpOp.Eq] [PySem.Expr.Constant (Const.str _) _ _] _) _ _ _) _) _ _ _); k_dflt (first | (refine' if_eqF ?FzD512 ?vzD512 ?ezD512 ?_ ?azD512 ?bzD512 ?dzD512; (case FzD512 => k_asm); (case azD512 => exact rfl); (case bzD512 => exact rfl); (case dzD512 => decide); (case vzD512 => first | exact rfl | assumption); (case ezD512 => first | with_reducible assumption | decide); k_whole) | (refine' if_eqT ?FzD512 ?vzD512 ?ezD512 ?_ ?azD512 ?bzD512 ?dzD512; (case FzD512 => k_asm); (case azD512 => exact rfl); (case bzD512 => exact rfl); (case dzD512 => decide); (case vzD512 => first | exact rfl | assumption); (case ezD512 => first | with_reducible rfl | with_reducible assumption); k_whole))))
  (k_with "exec If" => (k_here; (with_reducible show wpAny _ _ (exec (Stmt.If (PySem.Expr.Compare (PySem.Expr.Name _ _) [CmpOp.NotEq] [PySem.Expr.Constant (Const.str _) _ _] _) _ _ _) _) _ _ _); k_dflt (first | (refine' if_neT ?FzD513 ?vzD513 ?ezD513 ?_ ?azD513 ?bzD513 ?dzD513; (case FzD513 => k_asm); (case azD513 => exact rfl); (case bzD513 => exact rfl); (case dzD513 => decide); (case vzD513 => first | exact rfl | assumption); (case ezD513 => first | with_reducible assumption | decide); k_whole) | (refine' if_neF ?FzD513 ?vzD513 ?ezD513 ?_ ?azD513 ?bzD513 ?dzD513; (case FzD513 => k_asm); (case azD513 => exact rfl); (case bzD513 => exact rfl); (case dzD513 => decide); (case vzD513 => first | exact rfl | assumption); (case ezD513 => first | with_reducible rfl | with_reducible assumption); k_whole))))
  (k_with "exec If" => (k_here; (with_reducible show wpAny _ _ (exec (Stmt.If (PySem.Expr.Compare (PySem.Expr.Name _ _) [CmpOp.In] [PySem.Expr.Tuple _ _ _] _) _ _ _) _) _ _ _); k_dflt (first | (refine' if_inT ?FzD514 ?NzD514 ?vzD514 ?lzD514 ?zzD514 ?ezD514 ?_ ?azD514 ?bzD514 ?dzD514; (case FzD514 => k_asm); (case NzD514 => k_asm); (case lzD514 => repeat constructor); (case zzD514 => decide); (case azD514 => exact rfl); (case bzD514 => exact rfl); (case dzD514 => decide); (case vzD514 => first | exact rfl | assumption); (case ezD514 => first | decide | with_reducible assumption); k_whole; intro h' tk' F' N'; (try k_sweep)) | (refine' if_inF ?FzD514 ?NzD514 ?vzD514 ?lzD514 ?zzD514 ?ezD514 ?_ ?azD514 ?bzD514 ?dzD514; (case FzD514 => k_asm); (case NzD514 => k_asm); (case lzD514 => repeat constructor); (case zzD514 => decide); (case azD514 => exact rfl); (case bzD514 => exact rfl); (case dzD514 => decide); (case vzD514 => first | exact rfl | assumption); (case ezD514 => first | with_reducible assumption | decide | (simp only [List.mem_cons, List.not_mem_nil, or_false, not_or]; refine ⟨?_, ?_⟩ <;> with_reducible assumption) | (simp only [List.mem_cons, List.not_mem_nil, or_false, not_or]; refine ⟨?_, ?_, ?_⟩ <;> with_reducible assumption)); k_whole; intro _ _ _ _; (try k_sweep)))))
  (k_with "m k_lt" => (intro hlt9; replace hlt9 := allLt_of hlt9; dsimp only [AllLt] at hlt9; revert hlt9))
  (k_with "m k_ne" => ((refine neN ?_; (try dsimp only); first | (with_reducible assumption) | (with_reducible exact Ne.symm (by assumption)) | omega)))
  (k_with "m k_inst" => (exact inst_of (by with_reducible assumption) (by with_reducible assumption) (by with_reducible assumption)))
  (k_with "m k_room" => (((try simp only [depth_under_make, depth_under_kw, depth_in1, depth_deeper, depth_caller]); (try dsimp only [arT]); omega)))
  (k_with "m ktr_unf" => (first | exact News.get (by k_asm) (by k_mem) | exact get1 (by assumption) (by assumption) | exact get2 (by assumption) (by assumption) (by assumption) | exact get3 (by assumption) (by assumption) (by assumption) (by assumption)))
  (k_with "m ktr_units" => ((rw [sizeLine_eq]; first | omega | (refine Nat.le_trans (len_without (by assumption)) ?_; decide))))
  (k_with "m ktr_rel" => (first | exact Fr.tup (by assumption) (by assumption) | exact tup2 (by assumption) (by assumption) (by assumption) | exact tup3 (by assumption) (by assumption) (by assumption) (by assumption) | exact News.isTup (by k_asm) (by k_mem)))
  (k_with "m k_put" => (first | exact put_address | exact put_cfa | exact put_rules | exact put_first))
  trivial
local macro_rules | `(tactic| k_lt $h:ident) => `(tactic| (revert $h:ident; k_extra "m k_lt"; intro $h:ident))
local macro_rules | `(tactic| k_ne) => `(tactic| k_extra "m k_ne")
local macro_rules | `(tactic| k_inst) => `(tactic| k_extra "m k_inst")
local macro_rules | `(tactic| k_room) => `(tactic| k_extra "m k_room")
local macro_rules | `(tactic| ktr_unf) => `(tactic| k_extra "m ktr_unf")
local macro_rules | `(tactic| ktr_units) => `(tactic| k_extra "m ktr_units")
local macro_rules | `(tactic| ktr_rel) => `(tactic| k_extra "m ktr_rel")
local macro_rules | `(tactic| k_put) => `(tactic| k_extra "m k_put")

inductive ArgsIn (hid : Heap) (b : Addr) (op : Op) : Prop
  | mk (vs : List Value) (n : Nat) : hid.get? b = some (tupOb vs n) → IntsAre vs op.args → ArgsIn hid b op
structure DoHyp (w : World) (Z : List Addr) (h₀ : Heap) (L : Addr) (h : Heap) (x dx rd fd kd wd : Addr) (kds : List Addr) (st : RS) (b : Addr) (op : Op) : Prop where
  S : SelfIn w Z h x dx rd fd kd wd kds st
  fresh : ∀ a ∈ [x, dx, rd, kd, wd], a ≠ L ∧ h₀.get? a = none
  args : ArgsIn (hideAll h (x :: dx :: rd :: kd :: wd :: kds)) b op
  ok : op.ok
  few : st.kept.length < 1000 ∧ st.rows.length < 1000
noncomputable def DoPost (w : World) (Z : List Addr) (s : Shared) (x dx rd fd kd wd : Addr) (kds : List Addr) (st : RS) (op : Op) (Q : Value → Shared → Prop) : Prop :=
  ∀ st' h' tk' rd' kds', st.step op = some st' → SelfIn w Z h' x dx rd' fd kd wd kds' st' → Kept [x, dx, rd, kd, wd] s.heap h' → (∀ a ∈ rd' :: kds', a ∈ rd :: kds ∨ s.heap.get? a = none) → Q .none { s with heap := h', toks := tk' }
noncomputable def DoFault (s : Shared) (x dx rd kd wd : Addr) (l : List Env) (st : RS) (op : Op) (E : Value → Shared → Prop) : Prop :=
  ∀ h' tk' e, st.step op = none → FaultOut [x, dx, rd, kd, wd] l s.heap e h' → E (.ref e) { s with heap := h', toks := tk' }

theorem ints0 {vs : List Value} (h : IntsAre vs []) : vs = [] := by cases h; rfl
theorem ints1 {vs : List Value} {a : Int} (h : IntsAre vs [a]) : ∃ t, vs = [.int a t] := by
  cases h with
  | cons _ t r => cases r; exact ⟨t, rfl⟩
theorem ints2 {vs : List Value} {a b : Int} (h : IntsAre vs [a, b]) : ∃ t u, vs = [.int a t, .int b u] := by
  cases h with
  | cons _ t r =>
    cases r with
    | cons _ u r => cases r; exact ⟨t, u, rfl⟩
theorem apart_ne {x dx rd kd wd : Addr} {kds : List Addr} (h : (x :: dx :: rd :: kd :: wd :: kds).Nodup) :
    @Ne Nat x dx ∧ @Ne Nat x rd ∧ @Ne Nat x kd ∧ @Ne Nat x wd ∧ @Ne Nat dx rd ∧ @Ne Nat dx kd ∧ @Ne Nat dx wd ∧ @Ne Nat rd kd ∧ @Ne Nat rd wd ∧ @Ne Nat kd wd ∧ (kds.Nodup ∧ ∀ d ∈ kds, d ≠ x ∧ d ≠ dx ∧ d ≠ rd ∧ d ≠ kd ∧ d ≠ wd) := by
  simp only [List.nodup_cons, List.mem_cons, not_or] at h
  refine letter fun Qg hg => ?_
  obtain ⟨⟨a1, a2, a3, a4, a5⟩, ⟨b1, b2, b3, b4⟩, ⟨c1, c2, c3⟩, ⟨d1, d2⟩, e1, f⟩ := h
  refine hg ?_
  clear hg
  exact ⟨a1, a2, a3, a4, b1, b2, b3, c1, c2, d1, f, fun d hd => ⟨fun q => a5 (q ▸ hd), fun q => b4 (q ▸ hd), fun q => c3 (q ▸ hd), fun q => d2 (q ▸ hd), fun q => e1 (q ▸ hd)⟩⟩
theorem hid_into {h g : Heap} {x dx rd kd wd : Addr} {kds : List Addr} (hg : ∀ b o, b ∉ [x, dx, rd, kd, wd] → h.get? b = some o → g.get? b = some o) : ∀ b o, (hideAll h (x :: dx :: rd :: kd :: wd :: kds)).get? b = some o → g.get? b = some o := fun b o e => by
  refine hg b o (fun hm => ?_) (of_hideAll _ e)
  rw [hideAll_none _ (by simp only [List.mem_cons, List.not_mem_nil, or_false] at hm ⊢; rcases hm with r | r | r | r | r <;> simp [r])] at e
  cases e

theorem do_led {s : Shared} {h₀ : Heap} {L x dx rd kd wd : Addr} {a1 a2 a3 a4 a5 : Obj} (obj : s.heap.get? x = some a1) (fresh : ∀ a ∈ [x, dx, rd, kd, wd], a ≠ L ∧ h₀.get? a = none)
    (hdx : s.heap.get? dx = some a2) (hro : s.heap.get? rd = some a3) (hkd : s.heap.get? kd = some a4) (hwd : s.heap.get? wd = some a5) : News h₀ L s.heap [(x, a1), (dx, a2), (rd, a3), (kd, a4), (wd, a5)] := by
  intro p hp
  simp only [List.mem_cons, List.not_mem_nil, or_false] at hp
  rcases hp with rfl | rfl | rfl | rfl | rfl
  · exact ⟨obj, fresh _ (by simp)⟩
  · exact ⟨hdx, fresh _ (by simp)⟩
  · exact ⟨hro, fresh _ (by simp)⟩
  · exact ⟨hkd, fresh _ (by simp)⟩
  · exact ⟨hwd, fresh _ (by simp)⟩
theorem cfa_cases {hid g : Heap} {cv : Value} {c : Cfa} (x : CfaIn hid cv c) (up : ∀ b o, hid.get? b = some o → g.get? b = some o) :
    (c = none ∧ cv = .none) ∨ ∃ p ca u1 u2, ∃ _cn : Nat, c = some p ∧ cv = .ref ca ∧ IsTup g ca [.int p.1 u1, .int p.2 u2].toArray := by
  cases x with
  | nil => exact .inl ⟨rfl, rfl⟩
  | pair e => exact .inr ⟨_, _, _, _, 0, rfl, rfl, isTup_of (up _ _ e)⟩

set_option maxHeartbeats 16000000 in
theorem do_nop {w : World} {Z : List Addr} {loose : List Str} {mean : ExcName → Option Value} {mg mb : Str → Option Value} {A₀ : Around} {dp un : Nat} {gd : Option (List Code)} {env : Env} {outer : List Env} {base h₀ : Heap} {L : Addr} {m : Str → Option Value} {s : Shared} {Q E : Value → Shared → Prop} {x dx rd fd kd wd b : Addr} {kds : List Addr} {st : RS} {tn : Tok}
    (B : Below A₀ base outer h₀) (F : Fr h₀ L s.heap m) (X : (hd.heap_1 w.params).In h₀) (T : Top topProg loose mean mg mb h₀)
    (hf : env.frame = some L) (hk : env.scope.kind = .function) (hroom : dp + 9 < recursionLimit) (H : DoHyp w Z h₀ L s.heap x dx rd fd kd wd kds st b (.nop))
    (hq : DoPost w Z s x dx rd fd kd wd kds st (.nop) Q) (hE : DoFault s x dx rd kd wd (env :: outer) st (.nop) E) :
    wpAny (model PySem.Challenge.rw_on0310_01.row.prog w) (arT dp un gd env outer) (call (.ref 116) [.ref x, .str (Op.name (.nop)) tn, .ref b]) Q E s := by
  revert X; k_fill; intro X
  simp only [Op.name]
  refine letter fun Qg hg => ?_
  obtain ⟨S, fresh, ⟨vs, nb, hb, hi⟩, ok, few⟩ := H
  refine hg ?_
  clear hg
  refine letter fun Qg hg => ?_
  obtain ⟨obj, ⟨q, n, t, cv, hdx, hcv⟩, ⟨ro, rkvs, hro, hlo, hrd, hrb⟩, hfst, ⟨kvs, kn, hkd, hka⟩, ⟨rvs, rn, hwd, hra⟩, ap, hz⟩ := S
  refine hg ?_
  clear hg
  have N := do_led obj fresh hdx hro hkd hwd
  refine wpAny_call ?_
  k_dflt (refine' enter (binds := [(Str.ofString "self", .ref x), (Str.ofString "name", .str (Str.ofString "nop") tn), (Str.ofString "args", .ref b)]) B F X T N rfl hf hk ?k6 ?k7 ?k8 ?k9 ?kB ?_ ?c2 ?c3 ?c4 ?c5; (case k6 => k_is); (case k7 => k_is); (case k8 => show dp < _; omega); (case k9 => exact BindsTo.of_eq rfl); (case c5 => decide); (case kB => exact locs rfl); (case c2 => exact rfl); (case c3 => exact rfl); (case c4 => exact rfl); k_whole; intro g L' h' hg hk₁ hL' F' N' B' X' T'; (try dsimp only); (try k_fold))

  have hg₁ : ∀ b o, b ∉ [x, dx, rd, kd, wd] → s.heap.get? b = some o → g.get? b = some o := hg
  clear hg hk₁
  have up := hid_into (kds := kds) hg₁
  dsimp only [selfD, ent] at N'
  refine letter fun Qg hg => ?_
  obtain ⟨ne1, ne2, ne3, ne4, ne5, ne6, ne7, ne8, ne9, neA, nek⟩ := apart_ne ap
  refine hg ?_
  clear hg
  have nek' := nek.2
  have hbT := isTup_of (up _ _ hb)
  simp only [Op.args] at hi
  obtain rfl := ints0 hi
  all_goals ((try k_extra "m letter"); w_strict k_steps)
  · (try k_unfold)
    (try dsimp only)
    (with_reducible rename Fr _ _ _ _ => kF)
    (with_reducible rename News _ _ _ _ => kN)
    have up' := up_of (kds := kds) (own' := x :: dx :: rd :: kd :: wd :: kds) hg₁ kF (fun a ha => .inl ha)
    refine hq st _ _ rd kds rfl ?_ (kept_of hg₁ kF) (fun a ha => .inl ha)
    exact ⟨(kN (x, _) (by k_mem)).1, ⟨q, n, _, _, (kN (dx, _) (by k_mem)).1, hcv.keeps up'⟩, ⟨ro, rkvs, (kN (rd, _) (by k_mem)).1, hlo, hrd, hrb.keeps up'⟩, hfst.keeps up', ⟨kvs, kn, (kN (kd, _) (by k_mem)).1, hka.imp up' (kds_kept hg₁ kF nek')⟩, ⟨rvs, rn, (kN (wd, _) (by k_mem)).1, hra.imp (fun _ _ r => r.keeps up')⟩, ap, hz⟩
theorem lines_D7 : True := by
  k_with_none
  (k_with "execs cons" => (k_here; first | ((fail_if_success (fail_if_success k_gentoks)); (refine tok_letter ?_); intro tk) | ((fail_if_success (with_reducible show wpAny _ _ _ (Behind _) _ _)); (with_reducible refine Q_letter ?_); intro Q9 hQ9) | (with_reducible refine execs_one ?_) | (with_reducible refine execs_cons_L ?_; intro Q9 hQ9)))
  (k_with "Behind" => ((rename (∀ f s', _ → Behind _ f s') => hB9); first | ((with_reducible refine hB9 _ _ ?_); (try dsimp only)) | (clear hB9; k_extra "Behind")))
  (k_with "BehindE" => ((rename (∀ e s', _ → BehindE _ e s') => hB9); first | ((with_reducible refine hB9 _ _ ?_); (try dsimp only)) | (clear hB9; k_extra "BehindE")))
  (k_with "m letter" => (first | (with_reducible show wpAny _ _ _ (Behind _) (BehindE _) _) | (with_reducible show wpAny _ _ _ _ (BehindE _) _; refine Q_letter ?_; intro Q9 hQ9) | (with_reducible refine QE_letter (by passes_own) ?_; intro Q9 E9 hQ9 hE9 hP9) | (refine Q_letter ?_; intro Q9 hQ9)))
  (k_with "call ref" => (k_here; (with_reducible show wpAny _ _ (call (Value.ref 44) [Value.str _ _]) _ _ _); k_dflt (refine' fault_call_K ?BzD71 ?FzD71 ?XzD71 ?TzD71 ?NzD71 ?AzD71 ?fzD71 ?kzD71 ?rzD71 ?_; (case BzD71 => k_asm); (case FzD71 => k_asm); (case XzD71 => k_asm); (case TzD71 => k_asm); (case NzD71 => k_asm); (case AzD71 => exact rfl); (case fzD71 => exact rfl); (case kzD71 => exact rfl); (case rzD71 => k_room); k_whole); intro _ _ _ _ _ _; (try dsimp only)))
  (k_with "exec Raise some none" => (k_here; k_dflt (refine raise44_exec rfl ?_)))
  (k_with "RaisableF" => ((rename MadeFault _ _ _ => hM9); obtain ⟨t9, dd9, he9⟩ := MadeFault.there hM9; refine ⟨_, _, _, rfl, faultCls (Frag.In.keeps (by k_asm) (Fr.keep (by k_asm))), he9, ?_⟩; clear he9))
  (k_with "leaving ref" => (k_here; (with_reducible show wpAny _ (Around.deeper _ (envOf _ _ _ _ _)) _ _ _ _); first | ((rename FaultOut _ _ _ _ _ => hR9); refine leave_faultOn (by assumption) (by assumption) hR9 ?_; intro h9 R9) | ((rename MadeFault _ _ _ => hM9); refine leave_fault (by assumption) hM9 (by assumption) ?_ rfl; intro _ _)))
  (k_with "setItem ref int" => (k_here; (with_reducible show wpAny _ _ (setItem (Value.ref _) (Value.int _ _) _) _ _ _); k_dflt (refine' rset_K ?FzD75 ?NzD75 ?UzD75 ?dzD75 ?zzD75 ?_; (case FzD75 => k_asm); (case NzD75 => k_asm); (case UzD75 => k_updF); (case dzD75 => assumption); (case zzD75 => ktr_units); k_whole); intro _ _ _ _ _))
  (k_with "call builtin:dict.pop" => (k_here; k_dflt (refine' rpop_any ?FzD76 ?NzD76 ?UzD76 ?lzD76 ?dzD76 ?zzD76 ?_; (case FzD76 => k_asm); (case NzD76 => k_asm); (case UzD76 => k_updF); (case lzD76 => assumption); (case dzD76 => assumption); (case zzD76 => ktr_units); k_whole; intro _ _ _ _ _ _)))
  (k_with "compareOp In int ref" => (k_here; k_dflt (first | (refine' rin_none ?ezD77 ?lzD77 ?dzD77 ?vzD77 ?_; (case ezD77 => ktr_unf); (case lzD77 => assumption); (case dzD77 => assumption); (case vzD77 => assumption); k_whole) | (refine' rin_some ?ezD77 ?lzD77 ?dzD77 ?vzD77 ?_; (case ezD77 => ktr_unf); (case lzD77 => assumption); (case dzD77 => assumption); (case vzD77 => assumption); k_whole))))
  (k_with "subscriptTail" => (k_here; (with_reducible show wpAny _ _ (subscriptTail _ _ (Value.ref _) (Value.int _ _)) _ _ _); k_dflt (refine' ritem_K ?ezD78 ?dzD78 ?vzD78 ?_ (by with_unfolding_all rfl) (by intro _; with_unfolding_all rfl); (case ezD78 => ktr_unf); (case dzD78 => assumption); (case vzD78 => assumption); k_whole)))
  (k_with "call type:dict" => (k_here; (with_reducible show wpAny _ _ (call (Value.type "dict") [Value.ref _]) _ _ _); k_dflt (refine' rcopy_K ?FzD79 ?NzD79 ?bzD79 ?ezD79 ?lzD79 ?dzD79 ?zzD79 ?_; (case FzD79 => k_asm); (case NzD79 => k_asm); (case bzD79 => exact Top.nolimit (by assumption)); (case ezD79 => ktr_unf); (case lzD79 => assumption); (case dzD79 => assumption); (case zzD79 => ktr_units); k_whole); intro _ _ _ _ _ _ _ l9 _; (try k_lt l9)))
  (k_with "subscriptTail" => (k_here; (with_reducible show wpAny _ _ (subscriptTail _ _ (Value.ref _) (Value.int 0 _)) _ _ _); k_dflt (refine' tup_item0 ?tzD710 ?_ (by with_unfolding_all rfl) (by intro _; with_unfolding_all rfl); (case tzD710 => ktr_rel); k_whole)))
  (k_with "subscriptTail" => (k_here; (with_reducible show wpAny _ _ (subscriptTail _ _ (Value.ref _) (Value.int 1 _)) _ _ _); k_dflt (refine' tup_item1 ?tzD711 ?_ (by with_unfolding_all rfl) (by intro _; with_unfolding_all rfl); (case tzD711 => ktr_rel); k_whole)))
  (k_with "call builtin:list.append" => (k_here; (with_reducible show wpAny _ _ (call (Value.builtin _) [Value.ref _, _]) _ _ _); k_dflt (refine' append_K ?k1zD712 ?k2zD712 ?k3zD712 ?_ ?zzD712; (case k1zD712 => k_asm); (case k2zD712 => k_asm); (case k3zD712 => k_upd); (case zzD712 => ktr_room); k_whole); intro _ _ _; (try k_sweep)))
  (k_with "exec If" => (k_here; (with_reducible show wpAny _ _ (exec (Stmt.If (PySem.Expr.Compare (PySem.Expr.Name _ _) [CmpOp.Eq] [PySem.Expr.Constant (Const.str _) _ _] _) _ _ _) _) _ _ _); k_dflt (first | (refine' if_eqF ?FzD713 ?vzD713 ?ezD713 ?_ ?azD713 ?bzD713 ?dzD713; (case FzD713 => k_asm); (case azD713 => exact rfl); (case bzD713 => exact rfl); (case dzD713 => decide); (case vzD713 => first | exact rfl | assumption); (case ezD713 => first | with_reducible assumption | decide); k_whole) | (refine' if_eqT ?FzD713 ?vzD713 ?ezD713 ?_ ?azD713 ?bzD713 ?dzD713; (case FzD713 => k_asm); (case azD713 => exact rfl); (case bzD713 => exact rfl); (case dzD713 => decide); (case vzD713 => first | exact rfl | assumption); (case ezD713 => first | with_reducible rfl | with_reducible assumption); k_whole))))
  (k_with "exec If" => (k_here; (with_reducible show wpAny _ _ (exec (Stmt.If (PySem.Expr.Compare (PySem.Expr.Name _ _) [CmpOp.NotEq] [PySem.Expr.Constant (Const.str _) _ _] _) _ _ _) _) _ _ _); k_dflt (first | (refine' if_neT ?FzD714 ?vzD714 ?ezD714 ?_ ?azD714 ?bzD714 ?dzD714; (case FzD714 => k_asm); (case azD714 => exact rfl); (case bzD714 => exact rfl); (case dzD714 => decide); (case vzD714 => first | exact rfl | assumption); (case ezD714 => first | with_reducible assumption | decide); k_whole) | (refine' if_neF ?FzD714 ?vzD714 ?ezD714 ?_ ?azD714 ?bzD714 ?dzD714; (case FzD714 => k_asm); (case azD714 => exact rfl); (case bzD714 => exact rfl); (case dzD714 => decide); (case vzD714 => first | exact rfl | assumption); (case ezD714 => first | with_reducible rfl | with_reducible assumption); k_whole))))
  (k_with "exec If" => (k_here; (with_reducible show wpAny _ _ (exec (Stmt.If (PySem.Expr.Compare (PySem.Expr.Name _ _) [CmpOp.In] [PySem.Expr.Tuple _ _ _] _) _ _ _) _) _ _ _); k_dflt (first | (refine' if_inT ?FzD715 ?NzD715 ?vzD715 ?lzD715 ?zzD715 ?ezD715 ?_ ?azD715 ?bzD715 ?dzD715; (case FzD715 => k_asm); (case NzD715 => k_asm); (case lzD715 => repeat constructor); (case zzD715 => decide); (case azD715 => exact rfl); (case bzD715 => exact rfl); (case dzD715 => decide); (case vzD715 => first | exact rfl | assumption); (case ezD715 => first | decide | with_reducible assumption); k_whole; intro h' tk' F' N'; (try k_sweep)) | (refine' if_inF ?FzD715 ?NzD715 ?vzD715 ?lzD715 ?zzD715 ?ezD715 ?_ ?azD715 ?bzD715 ?dzD715; (case FzD715 => k_asm); (case NzD715 => k_asm); (case lzD715 => repeat constructor); (case zzD715 => decide); (case azD715 => exact rfl); (case bzD715 => exact rfl); (case dzD715 => decide); (case vzD715 => first | exact rfl | assumption); (case ezD715 => first | with_reducible assumption | decide | (simp only [List.mem_cons, List.not_mem_nil, or_false, not_or]; refine ⟨?_, ?_⟩ <;> with_reducible assumption) | (simp only [List.mem_cons, List.not_mem_nil, or_false, not_or]; refine ⟨?_, ?_, ?_⟩ <;> with_reducible assumption)); k_whole; intro _ _ _ _; (try k_sweep)))))
  (k_with "m k_lt" => (intro hlt9; replace hlt9 := allLt_of hlt9; dsimp only [AllLt] at hlt9; revert hlt9))
  (k_with "m k_ne" => ((refine neN ?_; (try dsimp only); first | (with_reducible assumption) | (with_reducible exact Ne.symm (by assumption)) | omega)))
  (k_with "m k_inst" => (exact inst_of (by with_reducible assumption) (by with_reducible assumption) (by with_reducible assumption)))
  (k_with "m k_room" => (((try simp only [depth_under_make, depth_under_kw, depth_in1, depth_deeper, depth_caller]); (try dsimp only [arT]); omega)))
  (k_with "m ktr_unf" => (first | exact News.get (by k_asm) (by k_mem) | exact get1 (by assumption) (by assumption) | exact get2 (by assumption) (by assumption) (by assumption) | exact get3 (by assumption) (by assumption) (by assumption) (by assumption)))
  (k_with "m ktr_units" => ((rw [sizeLine_eq]; first | omega | (refine Nat.le_trans (len_without (by assumption)) ?_; decide))))
  (k_with "m ktr_rel" => (first | exact Fr.tup (by assumption) (by assumption) | exact tup2 (by assumption) (by assumption) (by assumption) | exact tup3 (by assumption) (by assumption) (by assumption) (by assumption) | exact News.isTup (by k_asm) (by k_mem)))
  (k_with "m k_put" => (first | exact put_address | exact put_cfa | exact put_rules | exact put_first))
  (k_with "m k_handed" => (assumption))
  (k_with "m ktr_room" => ((rw [sizeLine_eq]; (try simp only [List.size_toArray, List.length_append, List.length_cons, List.length_nil]); omega)))
  trivial
local macro_rules | `(tactic| k_handed) => `(tactic| k_extra "m k_handed")
local macro_rules | `(tactic| ktr_room) => `(tactic| k_extra "m ktr_room")
theorem Bears.congr {hid : Heap} {kvs : List (Int × Value)} {f f' : Rules} (x : Bears hid kvs f) (h : ∀ k, f' k = f k) : Bears hid kvs f' :=
  ⟨fun k v e => let ⟨r, h1, h2⟩ := x.val k v e; ⟨r, (h k).trans h1, h2⟩, fun k e => (h k).trans (x.dom k e), x.keys⟩
theorem restored_nn {f g : Rules} {m : Int} (h1 : f m = none) (h2 : g m = none) (k : Int) : (if k = m then g m else f k) = f k := by
  by_cases hk : k = m
  · subst hk; rw [if_pos rfl, h1, h2]
  · rw [if_neg hk]
theorem restored_s {f g : Rules} {m : Int} {r : Rule} (h2 : g m = some r) (k : Int) : (if k = m then g m else f k) = put f m r k := by
  unfold put; rw [h2]
theorem restored_n {f g : Rules} {m : Int} (h2 : g m = none) (k : Int) : (if k = m then g m else f k) = if k = m then none else f k := by rw [h2]
theorem restored_ds {f g : Rules} {m : Int} {r : Rule} (h2 : g m = some r) (k : Int) : (if k = m then g m else f k) = put (fun k => if k = m then none else f k) m r k := by
  unfold put
  by_cases hk : k = m
  · rw [if_pos hk, if_pos hk, h2]
  · simp only [if_neg hk]
theorem CfaIn.handed {h : Heap} {v : Value} {c : Cfa} (x : CfaIn h v c) : handedIn v = true := by cases x <;> rfl
section
variable {w : World} {Z : List Addr} {s : Shared} {x dx rd fd kd wd : Addr} {kds : List Addr} {st : RS} {Q : Value → Shared → Prop} {g h' : Heap} {L' : Addr} {m' : Str → Option Value} {q : Nat → Int × Tok} {n kn rn tk : Nat} {t t' : Tok} {cv : Value}
  {ro o' : Obj} {rkvs : List (Int × Value)} {kvs rvs : List Value} {T D : Addr}
theorem fresh_of {h : Heap} (hg : ∀ b o, b ∉ [x, dx, rd, kd, wd] → h.get? b = some o → g.get? b = some o) (hD : g.get? D = none) (h1 : @Ne Nat D x) (h2 : @Ne Nat D dx) (h3 : @Ne Nat D rd) (h4 : @Ne Nat D kd) (h5 : @Ne Nat D wd) : h.get? D = none := by
  cases e : h.get? D with
  | none => rfl
  | some o =>
    have := hg D o (by
      intro hm
      simp only [List.mem_cons, List.not_mem_nil, or_false] at hm
      rcases hm with r | r | r | r | r
      · exact h1 r
      · exact h2 r
      · exact h3 r
      · exact h4 r
      · exact h5 r) e
    rw [hD] at this; cases this
structure Off5 (D x dx rd kd wd : Nat) : Prop where
  h1 : D ≠ x
  h2 : D ≠ dx
  h3 : D ≠ rd
  h4 : D ≠ kd
  h5 : D ≠ wd
theorem end_remember (hq : DoPost w Z s x dx rd fd kd wd kds st .remember Q)
    (hg : ∀ b o, b ∉ [x, dx, rd, kd, wd] → s.heap.get? b = some o → g.get? b = some o) (kF : Fr g L' h' m')
    (hcv : CfaIn (hideAll s.heap (x :: dx :: rd :: kd :: wd :: kds)) cv st.cfa) (hlo : (rd == sysModules) = false) (hrd : ro.IsDictOf (iK w) rkvs) (hrb : Bears (hideAll s.heap (x :: dx :: rd :: kd :: wd :: kds)) rkvs st.rules)
    (hfst : RulesAt w (hideAll s.heap (x :: dx :: rd :: kd :: wd :: kds)) fd st.first) (hka : KeptAll w Z s.heap (hideAll s.heap (x :: dx :: rd :: kd :: wd :: kds)) kvs kds st.kept) (hra : All2 (RowIn w (hideAll s.heap (x :: dx :: rd :: kd :: wd :: kds))) rvs st.rows)
    (ap : (x :: dx :: rd :: kd :: wd :: kds).Nodup) (hz : ∀ z ∈ Z, z ∈ kds)
    (kX : h'.get? x = some (instObj 119 dx)) (kDx : h'.get? dx = some (selfD q n st.addr t cv rd fd kd wd)) (kR : h'.get? rd = some ro) (kK : h'.get? kd = some (listOf (kvs.toArray.push (.ref T)) (kn + 1))) (kW : h'.get? wd = some (listOf rvs.toArray rn))
    (kT : h'.get? T = some (tupOb [cv, .ref D] 0)) (kD : h'.get? D = some o') (lD : (D == sysModules) = false) (iD : o'.IsDictOf (iK w) rkvs) (gT : g.get? T = none) (gD : g.get? D = none) (oT : Off5 T x dx rd kd wd) (oD : Off5 D x dx rd kd wd) (TD : @Ne Nat T D) :
    Q .none { s with heap := h', toks := tk } := by
  refine letter fun Qg hg => ?_
  obtain ⟨ne1, ne2, ne3, ne4, ne5, ne6, ne7, ne8, ne9, neA, nek⟩ := apart_ne ap
  refine hg ?_
  clear hg
  have nD := fresh_of hg gD oD.h1 oD.h2 oD.h3 oD.h4 oD.h5
  have Tk := off_kds hka hg nek.2 gT
  have Dk := off_kds hka hg nek.2 gD
  have up' := up_of (kds := kds) (own' := x :: dx :: rd :: kd :: wd :: (kds ++ [D])) hg kF (fun a ha => by
    simp only [List.mem_cons, List.mem_append, List.not_mem_nil, or_false] at ha ⊢
    rcases ha with r | r | r | r | r | r | r
    · exact .inl (.inl r)
    · exact .inl (.inr (.inl r))
    · exact .inl (.inr (.inr (.inl r)))
    · exact .inl (.inr (.inr (.inr (.inl r))))
    · exact .inl (.inr (.inr (.inr (.inr (.inl r)))))
    · exact .inl (.inr (.inr (.inr (.inr (.inr r)))))
    · exact .inr (r ▸ nD))
  refine hq { st with kept := st.kept ++ [(st.cfa, st.rules)] } _ _ rd (kds ++ [D]) rfl ?_ (kept_of hg kF) (fun a ha => ?_)
  · refine ⟨kX, ⟨q, n, t, cv, kDx, hcv.keeps up'⟩, ⟨ro, rkvs, kR, hlo, hrd, hrb.keeps up'⟩, hfst.keeps up', ⟨kvs ++ [.ref T], kn + 1, ?_, (hka.imp up' (kds_kept hg kF nek.2)).append (.cons (n := 0) ?_ (hcv.keeps up') kD lD iD (hrb.keeps up') (fun q => Dk (hz _ q)) .nil)⟩, ⟨rvs, rn, kW, hra.imp (fun _ _ r => r.keeps up')⟩, ?_, fun z q => List.mem_append_left _ (hz z q)⟩
    · rw [kK, List.push_toArray]
    · exact new_hid kT oT.h1 oT.h2 oT.h3 oT.h4 oT.h5 (fun hm => by
        rcases List.mem_append.mp hm with r | r
        · exact Tk r
        · exact TD (List.mem_singleton.mp r))
    · have : (x :: dx :: rd :: kd :: wd :: (kds ++ [D])) = (x :: dx :: rd :: kd :: wd :: kds) ++ [D] := rfl
      rw [this, List.nodup_append]
      refine ⟨ap, by simp, fun a ha b hb => ?_⟩
      rw [List.mem_singleton.mp hb]
      rintro rfl
      simp only [List.mem_cons] at ha
      rcases ha with r | r | r | r | r | r
      · exact oD.h1 r
      · exact oD.h2 r
      · exact oD.h3 r
      · exact oD.h4 r
      · exact oD.h5 r
      · exact Dk r
  · rcases List.mem_cons.mp ha with r | r
    · exact .inl (r ▸ List.mem_cons_self)
    · rcases List.mem_append.mp r with r | r
      · exact .inl (List.mem_cons_of_mem _ r)
      · rw [List.mem_singleton.mp r]; exact .inr nD
theorem end_row {op : Op} {a' : Int} {R rd' : Addr} {r1 r2 r3 : Int × Tok} {n' : Nat} {t₁ : Tok} (hs : st.step op = some { st with rows := st.rows ++ [⟨st.addr, st.cfa, st.rules⟩], addr := a' }) (hq : DoPost w Z s x dx rd fd kd wd kds st op Q)
    (hg : ∀ b o, b ∉ [x, dx, rd, kd, wd] → s.heap.get? b = some o → g.get? b = some o) (kF : Fr g L' h' m')
    (hcv : CfaIn (hideAll s.heap (x :: dx :: rd :: kd :: wd :: kds)) cv st.cfa) (hlo : (rd == sysModules) = false) (hrd : ro.IsDictOf (iK w) rkvs) (hrb : Bears (hideAll s.heap (x :: dx :: rd :: kd :: wd :: kds)) rkvs st.rules)
    (hfst : RulesAt w (hideAll s.heap (x :: dx :: rd :: kd :: wd :: kds)) fd st.first) (hka : KeptAll w Z s.heap (hideAll s.heap (x :: dx :: rd :: kd :: wd :: kds)) kvs kds st.kept) (hra : All2 (RowIn w (hideAll s.heap (x :: dx :: rd :: kd :: wd :: kds))) rvs st.rows)
    (ap : (x :: dx :: rd :: kd :: wd :: kds).Nodup) (hz : ∀ z ∈ Z, z ∈ kds)
    (kX : h'.get? x = some (instObj 119 dx)) (kDx : h'.get? dx = some (selfD q n a' t' cv rd fd kd wd)) (kR : h'.get? rd = some ro) (kK : h'.get? kd = some (listOf kvs.toArray kn)) (kW : h'.get? wd = some (listOf (rvs.toArray.push (.ref R)) (rn + 1)))
    (kRo : h'.get? R = some (instObj 63 rd')) (kRd : h'.get? rd' = some (dictOf [ent (Str.ofString "address") r1 (.int st.addr t₁), ent (Str.ofString "cfa") r2 cv, ent (Str.ofString "rules") r3 (.ref D)] n')) (kD : h'.get? D = some o') (lD : (D == sysModules) = false) (iD : o'.IsDictOf (iK w) rkvs)
    (gR : g.get? R = none) (gRd : g.get? rd' = none) (gD : g.get? D = none) (oR : Off5 R x dx rd kd wd) (oRd : Off5 rd' x dx rd kd wd) (oD : Off5 D x dx rd kd wd) :
    Q .none { s with heap := h', toks := tk } := by
  refine letter fun Qg hg => ?_
  obtain ⟨ne1, ne2, ne3, ne4, ne5, ne6, ne7, ne8, ne9, neA, nek⟩ := apart_ne ap
  refine hg ?_
  clear hg
  have up' := up_of (kds := kds) (own' := x :: dx :: rd :: kd :: wd :: kds) hg kF (fun a ha => .inl ha)
  refine hq _ _ _ rd kds hs ?_ (kept_of hg kF) (fun a ha => .inl ha)
  refine ⟨kX, ⟨q, n, t', cv, kDx, hcv.keeps up'⟩, ⟨ro, rkvs, kR, hlo, hrd, hrb.keeps up'⟩, hfst.keeps up', ⟨kvs, kn, kK, hka.imp up' (kds_kept hg kF nek.2)⟩, ⟨rvs ++ [.ref R], rn + 1, ?_, (hra.imp (fun _ _ r => r.keeps up')).append (.cons (.mk (dx := rd') (n := n') (t := t₁) (q1 := r1) (q2 := r2) (q3 := r3) ?_ ?_ (hcv.keeps up') ⟨o', rkvs, ?_, lD, iD, hrb.keeps up'⟩) .nil)⟩, ap, hz⟩
  · rw [kW, List.push_toArray]
  · exact new_hid kRo oR.h1 oR.h2 oR.h3 oR.h4 oR.h5 (off_kds hka hg nek.2 gR)
  · exact new_hid kRd oRd.h1 oRd.h2 oRd.h3 oRd.h4 oRd.h5 (off_kds hka hg nek.2 gRd)
  · exact new_hid kD oD.h1 oD.h2 oD.h3 oD.h4 oD.h5 (off_kds hka hg nek.2 gD)
end

set_option maxHeartbeats 16000000 in
theorem do_remember {w : World} {Z : List Addr} {loose : List Str} {mean : ExcName → Option Value} {mg mb : Str → Option Value} {A₀ : Around} {dp un : Nat} {gd : Option (List Code)} {env : Env} {outer : List Env} {base h₀ : Heap} {L : Addr} {m : Str → Option Value} {s : Shared} {Q E : Value → Shared → Prop} {x dx rd fd kd wd b : Addr} {kds : List Addr} {st : RS} {tn : Tok}
    (B : Below A₀ base outer h₀) (F : Fr h₀ L s.heap m) (X : (hd.heap_1 w.params).In h₀) (T : Top topProg loose mean mg mb h₀)
    (hf : env.frame = some L) (hk : env.scope.kind = .function) (hroom : dp + 9 < recursionLimit) (H : DoHyp w Z h₀ L s.heap x dx rd fd kd wd kds st b (.remember))
    (hq : DoPost w Z s x dx rd fd kd wd kds st (.remember) Q) (hE : DoFault s x dx rd kd wd (env :: outer) st (.remember) E) :
    wpAny (model PySem.Challenge.rw_on0310_01.row.prog w) (arT dp un gd env outer) (call (.ref 116) [.ref x, .str (Op.name (.remember)) tn, .ref b]) Q E s := by
  revert X; k_fill; intro X
  simp only [Op.name]
  refine letter fun Qg hg => ?_
  obtain ⟨S, fresh, ⟨vs, nb, hb, hi⟩, ok, few⟩ := H
  refine hg ?_
  clear hg
  refine letter fun Qg hg => ?_
  obtain ⟨obj, ⟨q, n, t, cv, hdx, hcv⟩, ⟨ro, rkvs, hro, hlo, hrd, hrb⟩, hfst, ⟨kvs, kn, hkd, hka⟩, ⟨rvs, rn, hwd, hra⟩, ap, hz⟩ := S
  refine hg ?_
  clear hg
  have N := do_led obj fresh hdx hro hkd hwd
  refine wpAny_call ?_
  k_dflt (refine' enter (binds := [(Str.ofString "self", .ref x), (Str.ofString "name", .str (Str.ofString "remember_state") tn), (Str.ofString "args", .ref b)]) B F X T N rfl hf hk ?k6 ?k7 ?k8 ?k9 ?kB ?_ ?c2 ?c3 ?c4 ?c5; (case k6 => k_is); (case k7 => k_is); (case k8 => show dp < _; omega); (case k9 => exact BindsTo.of_eq rfl); (case c5 => decide); (case kB => exact locs rfl); (case c2 => exact rfl); (case c3 => exact rfl); (case c4 => exact rfl); k_whole; intro g L' h' hg hk₁ hL' F' N' B' X' T'; (try dsimp only); (try k_fold))

  have hg₁ : ∀ b o, b ∉ [x, dx, rd, kd, wd] → s.heap.get? b = some o → g.get? b = some o := hg
  clear hg hk₁
  have up := hid_into (kds := kds) hg₁
  dsimp only [selfD, ent] at N'
  refine letter fun Qg hg => ?_
  obtain ⟨ne1, ne2, ne3, ne4, ne5, ne6, ne7, ne8, ne9, neA, nek⟩ := apart_ne ap
  refine hg ?_
  clear hg
  have nek' := nek.2
  have hbT := isTup_of (up _ _ hb)
  simp only [Op.args] at hi
  obtain rfl := ints0 hi
  have hlen : rkvs.length ≤ 4 := few_keys (isDict_nodup hrd) hrb.keys
  have hcvh : handedIn cv = true := hcv.handed
  have hkl : kvs.length < 1000 := by rw [hka.lens.1]; exact few.1
  have hrl : rvs.length < 1000 := by rw [hra.length]; exact few.2
  all_goals ((try k_extra "m letter"); w_strict k_steps)
  · (try k_unfold)
    (try dsimp only)
    (with_reducible rename Fr _ _ _ _ => kF)
    (with_reducible rename News _ _ _ _ => kN)
    exact end_remember hq hg₁ kF hcv hlo hrd hrb hfst hka hra ap hz (kN (x, _) (by k_mem)).1 (kN (dx, _) (by k_mem)).1 (kN (rd, _) (by k_mem)).1 (kN (kd, _) (by k_mem)).1 (kN (wd, _) (by k_mem)).1 (kN _ (.head _)).1 (kN _ (.tail _ (.head _))).1 (by assumption) (by assumption) (kN _ (.head _)).2.2 (kN _ (.tail _ (.head _))).2.2 ⟨by omega, by omega, by omega, by omega, by omega⟩ ⟨by omega, by omega, by omega, by omega, by omega⟩ (by omega)

set_option maxHeartbeats 16000000 in
theorem do_adv {w : World} {Z : List Addr} {loose : List Str} {mean : ExcName → Option Value} {mg mb : Str → Option Value} {A₀ : Around} {dp un : Nat} {gd : Option (List Code)} {env : Env} {outer : List Env} {base h₀ : Heap} {L : Addr} {m : Str → Option Value} {s : Shared} {Q E : Value → Shared → Prop} {x dx rd fd kd wd b : Addr} {kds : List Addr} {st : RS} {a₁ : Int} {tn : Tok}
    (B : Below A₀ base outer h₀) (F : Fr h₀ L s.heap m) (X : (hd.heap_1 w.params).In h₀) (T : Top topProg loose mean mg mb h₀)
    (hf : env.frame = some L) (hk : env.scope.kind = .function) (hroom : dp + 9 < recursionLimit) (H : DoHyp w Z h₀ L s.heap x dx rd fd kd wd kds st b (.adv a₁))
    (hq : DoPost w Z s x dx rd fd kd wd kds st (.adv a₁) Q) (hE : DoFault s x dx rd kd wd (env :: outer) st (.adv a₁) E) :
    wpAny (model PySem.Challenge.rw_on0310_01.row.prog w) (arT dp un gd env outer) (call (.ref 116) [.ref x, .str (Op.name (.adv a₁)) tn, .ref b]) Q E s := by
  revert X; k_fill; intro X
  simp only [Op.name]
  refine letter fun Qg hg => ?_
  obtain ⟨S, fresh, ⟨vs, nb, hb, hi⟩, ok, few⟩ := H
  refine hg ?_
  clear hg
  refine letter fun Qg hg => ?_
  obtain ⟨obj, ⟨q, n, t, cv, hdx, hcv⟩, ⟨ro, rkvs, hro, hlo, hrd, hrb⟩, hfst, ⟨kvs, kn, hkd, hka⟩, ⟨rvs, rn, hwd, hra⟩, ap, hz⟩ := S
  refine hg ?_
  clear hg
  have N := do_led obj fresh hdx hro hkd hwd
  refine wpAny_call ?_
  k_dflt (refine' enter (binds := [(Str.ofString "self", .ref x), (Str.ofString "name", .str (Str.ofString "advance_loc") tn), (Str.ofString "args", .ref b)]) B F X T N rfl hf hk ?k6 ?k7 ?k8 ?k9 ?kB ?_ ?c2 ?c3 ?c4 ?c5; (case k6 => k_is); (case k7 => k_is); (case k8 => show dp < _; omega); (case k9 => exact BindsTo.of_eq rfl); (case c5 => decide); (case kB => exact locs rfl); (case c2 => exact rfl); (case c3 => exact rfl); (case c4 => exact rfl); k_whole; intro g L' h' hg hk₁ hL' F' N' B' X' T'; (try dsimp only); (try k_fold))

  have hg₁ : ∀ b o, b ∉ [x, dx, rd, kd, wd] → s.heap.get? b = some o → g.get? b = some o := hg
  clear hg hk₁
  have up := hid_into (kds := kds) hg₁
  dsimp only [selfD, ent] at N'
  refine letter fun Qg hg => ?_
  obtain ⟨ne1, ne2, ne3, ne4, ne5, ne6, ne7, ne8, ne9, neA, nek⟩ := apart_ne ap
  refine hg ?_
  clear hg
  have nek' := nek.2
  have hbT := isTup_of (up _ _ hb)
  simp only [Op.args] at hi
  obtain ⟨t1, rfl⟩ := ints1 hi
  have hlen : rkvs.length ≤ 4 := few_keys (isDict_nodup hrd) hrb.keys
  have hcvh : handedIn cv = true := hcv.handed
  have hkl : kvs.length < 1000 := by rw [hka.lens.1]; exact few.1
  have hrl : rvs.length < 1000 := by rw [hra.length]; exact few.2
  all_goals ((try k_extra "m letter"); w_strict k_steps)
  · (rename FaultOut _ _ _ _ _ => hR9)
    exact hE _ _ _ (by simp only [RS.step, RS.go]; rw [if_pos (by assumption)]) (hR9.mono (fun b o e hb => ⟨hg₁ b o hb e, List.not_mem_nil⟩))
  · (try k_unfold)
    (try dsimp only)
    (with_reducible rename Fr _ _ _ _ => kF)
    (with_reducible rename News _ _ _ _ => kN)
    exact end_row (r1 := (_, _)) (r2 := (_, _)) (r3 := (_, _)) (by simp only [RS.step, RS.go]; rw [if_neg (by assumption), if_pos (by assumption)]) hq hg₁ kF hcv hlo hrd hrb hfst hka hra ap hz (kN (x, _) (by k_mem)).1 (kN (dx, _) (by k_mem)).1 (kN (rd, _) (by k_mem)).1 (kN (kd, _) (by k_mem)).1 (kN (wd, _) (by k_mem)).1 (kN _ (.head _)).1 (kN _ (.tail _ (.head _))).1 (kN _ (.tail _ (.tail _ (.head _)))).1 (by assumption) (by assumption) (kN _ (.head _)).2.2 (kN _ (.tail _ (.head _))).2.2 (kN _ (.tail _ (.tail _ (.head _)))).2.2 ⟨by omega, by omega, by omega, by omega, by omega⟩ ⟨by omega, by omega, by omega, by omega, by omega⟩ ⟨by omega, by omega, by omega, by omega, by omega⟩
  · (try k_unfold)
    (try dsimp only)
    (with_reducible rename Fr _ _ _ _ => kF)
    (with_reducible rename News _ _ _ _ => kN)
    have up' := up_of (kds := kds) (own' := x :: dx :: rd :: kd :: wd :: kds) hg₁ kF (fun a ha => .inl ha)
    refine hq st _ _ rd kds (by simp only [RS.step, RS.go]; rw [if_neg (by assumption), if_neg (by assumption)]) ?_ (kept_of hg₁ kF) (fun a ha => .inl ha)
    exact ⟨(kN (x, _) (by k_mem)).1, ⟨q, n, _, _, (kN (dx, _) (by k_mem)).1, hcv.keeps up'⟩, ⟨ro, rkvs, (kN (rd, _) (by k_mem)).1, hlo, hrd, hrb.keeps up'⟩, hfst.keeps up', ⟨kvs, kn, (kN (kd, _) (by k_mem)).1, hka.imp up' (kds_kept hg₁ kF nek')⟩, ⟨rvs, rn, (kN (wd, _) (by k_mem)).1, hra.imp (fun _ _ r => r.keeps up')⟩, ap, hz⟩

set_option maxHeartbeats 16000000 in
theorem do_loc {w : World} {Z : List Addr} {loose : List Str} {mean : ExcName → Option Value} {mg mb : Str → Option Value} {A₀ : Around} {dp un : Nat} {gd : Option (List Code)} {env : Env} {outer : List Env} {base h₀ : Heap} {L : Addr} {m : Str → Option Value} {s : Shared} {Q E : Value → Shared → Prop} {x dx rd fd kd wd b : Addr} {kds : List Addr} {st : RS} {a₁ : Int} {tn : Tok}
    (B : Below A₀ base outer h₀) (F : Fr h₀ L s.heap m) (X : (hd.heap_1 w.params).In h₀) (T : Top topProg loose mean mg mb h₀)
    (hf : env.frame = some L) (hk : env.scope.kind = .function) (hroom : dp + 9 < recursionLimit) (H : DoHyp w Z h₀ L s.heap x dx rd fd kd wd kds st b (.loc a₁))
    (hq : DoPost w Z s x dx rd fd kd wd kds st (.loc a₁) Q) (hE : DoFault s x dx rd kd wd (env :: outer) st (.loc a₁) E) :
    wpAny (model PySem.Challenge.rw_on0310_01.row.prog w) (arT dp un gd env outer) (call (.ref 116) [.ref x, .str (Op.name (.loc a₁)) tn, .ref b]) Q E s := by
  revert X; k_fill; intro X
  simp only [Op.name]
  refine letter fun Qg hg => ?_
  obtain ⟨S, fresh, ⟨vs, nb, hb, hi⟩, ok, few⟩ := H
  refine hg ?_
  clear hg
  refine letter fun Qg hg => ?_
  obtain ⟨obj, ⟨q, n, t, cv, hdx, hcv⟩, ⟨ro, rkvs, hro, hlo, hrd, hrb⟩, hfst, ⟨kvs, kn, hkd, hka⟩, ⟨rvs, rn, hwd, hra⟩, ap, hz⟩ := S
  refine hg ?_
  clear hg
  have N := do_led obj fresh hdx hro hkd hwd
  refine wpAny_call ?_
  k_dflt (refine' enter (binds := [(Str.ofString "self", .ref x), (Str.ofString "name", .str (Str.ofString "set_loc") tn), (Str.ofString "args", .ref b)]) B F X T N rfl hf hk ?k6 ?k7 ?k8 ?k9 ?kB ?_ ?c2 ?c3 ?c4 ?c5; (case k6 => k_is); (case k7 => k_is); (case k8 => show dp < _; omega); (case k9 => exact BindsTo.of_eq rfl); (case c5 => decide); (case kB => exact locs rfl); (case c2 => exact rfl); (case c3 => exact rfl); (case c4 => exact rfl); k_whole; intro g L' h' hg hk₁ hL' F' N' B' X' T'; (try dsimp only); (try k_fold))

  have hg₁ : ∀ b o, b ∉ [x, dx, rd, kd, wd] → s.heap.get? b = some o → g.get? b = some o := hg
  clear hg hk₁
  have up := hid_into (kds := kds) hg₁
  dsimp only [selfD, ent] at N'
  refine letter fun Qg hg => ?_
  obtain ⟨ne1, ne2, ne3, ne4, ne5, ne6, ne7, ne8, ne9, neA, nek⟩ := apart_ne ap
  refine hg ?_
  clear hg
  have nek' := nek.2
  have hbT := isTup_of (up _ _ hb)
  simp only [Op.args] at hi
  obtain ⟨t1, rfl⟩ := ints1 hi
  have hlen : rkvs.length ≤ 4 := few_keys (isDict_nodup hrd) hrb.keys
  have hcvh : handedIn cv = true := hcv.handed
  have hkl : kvs.length < 1000 := by rw [hka.lens.1]; exact few.1
  have hrl : rvs.length < 1000 := by rw [hra.length]; exact few.2
  all_goals ((try k_extra "m letter"); w_strict k_steps)
  · (rename FaultOut _ _ _ _ _ => hR9)
    exact hE _ _ _ (by simp only [RS.step, RS.go]; rw [if_pos (by assumption)]) (hR9.mono (fun b o e hb => ⟨hg₁ b o hb e, List.not_mem_nil⟩))
  · (try k_unfold)
    (try dsimp only)
    (with_reducible rename Fr _ _ _ _ => kF)
    (with_reducible rename News _ _ _ _ => kN)
    exact end_row (r1 := (_, _)) (r2 := (_, _)) (r3 := (_, _)) (by simp only [RS.step, RS.go]; rw [if_neg (by assumption), if_pos (by assumption)]) hq hg₁ kF hcv hlo hrd hrb hfst hka hra ap hz (kN (x, _) (by k_mem)).1 (kN (dx, _) (by k_mem)).1 (kN (rd, _) (by k_mem)).1 (kN (kd, _) (by k_mem)).1 (kN (wd, _) (by k_mem)).1 (kN _ (.head _)).1 (kN _ (.tail _ (.head _))).1 (kN _ (.tail _ (.tail _ (.head _)))).1 (by assumption) (by assumption) (kN _ (.head _)).2.2 (kN _ (.tail _ (.head _))).2.2 (kN _ (.tail _ (.tail _ (.head _)))).2.2 ⟨by omega, by omega, by omega, by omega, by omega⟩ ⟨by omega, by omega, by omega, by omega, by omega⟩ ⟨by omega, by omega, by omega, by omega, by omega⟩
  · (try k_unfold)
    (try dsimp only)
    (with_reducible rename Fr _ _ _ _ => kF)
    (with_reducible rename News _ _ _ _ => kN)
    have up' := up_of (kds := kds) (own' := x :: dx :: rd :: kd :: wd :: kds) hg₁ kF (fun a ha => .inl ha)
    refine hq st _ _ rd kds (by simp only [RS.step, RS.go]; rw [if_neg (by assumption), if_neg (by assumption)]) ?_ (kept_of hg₁ kF) (fun a ha => .inl ha)
    exact ⟨(kN (x, _) (by k_mem)).1, ⟨q, n, _, _, (kN (dx, _) (by k_mem)).1, hcv.keeps up'⟩, ⟨ro, rkvs, (kN (rd, _) (by k_mem)).1, hlo, hrd, hrb.keeps up'⟩, hfst.keeps up', ⟨kvs, kn, (kN (kd, _) (by k_mem)).1, hka.imp up' (kds_kept hg₁ kF nek')⟩, ⟨rvs, rn, (kN (wd, _) (by k_mem)).1, hra.imp (fun _ _ r => r.keeps up')⟩, ap, hz⟩
section
variable {prog : Program} {w : World} {A : Around} {E : Value → Shared → Prop} {s : Shared} {env : Env} {target : Expr} {body : List Stmt} {Q : Flow → Shared → Prop}

/-- a turn that goes on -/
inductive StepN (fp : List Addr) (Jn : Heap → Prop) (h : Heap) (g : Array GenState) (d : Drawn) (o' : OsState) (s₃ : Shared) : Prop
  | mk (h' : Heap) (tk : Nat) : (s₃ = { heap := h', gens := g, drawn := d, toks := tk, os := o' }) → Jn h' → (∀ b ∈ fp, ∀ o, h.get? b = some o → h'.get? b = some o) → StepN fp Jn h g d o' s₃
/-- a turn's end -/
noncomputable def StepH (fp : List Addr) (Jn : Heap → Prop) (h : Heap) (s₂ : Shared) (Q : Flow → Shared → Prop) (f : Flow) (s₃ : Shared) : Prop :=
  match f with
  | .ret v => Q (.ret v) s₃
  | .brk => Q .next s₃
  | _ => StepN fp Jn h s₂.gens s₂.drawn s₂.os s₃

theorem loopH {R : Result → Shared → Prop} {I : Addr} {fp wr : List Addr} {n : Nat} {P Md : Nat → Value → Heap → Prop} {St : Nat → Heap → Prop} {J : Nat → Heap → Prop} {Ex : Heap → Prop} (W : KTurns prog w A target I fp wr n P Md St) (hst : St 0 s.heap) (h0 : J 0 s.heap)
    (ex : ∀ i h, St i h → Ex h) (stab : ∀ i h h', J i h → Ex h → Kept wr h h' → Ex h' → J i h')
    (step : ∀ i v h tk, i < n → P i v h → J i h → St (i + 1) h → wpAny (model prog w) A (assign target env v) (fun _ s₃ => wpAny (model prog w) A (execs body env) (StepH fp (J (i + 1)) h s fun f s' => R (.ok f) s') (notedBy (model prog w) A env fun e s' => R (.error e) s') s₃) (notedBy (model prog w) A env fun e s' => R (.error e) s') { s with heap := h, toks := tk })
    (hR : ∀ h h' tk, J n h → Kept wr h h' → R (.ok .next) { s with heap := h', toks := tk }) :
    codeAny (model prog w) A (.forLoop target (.ref I) body [] env) R s := by
  refine codeAny_forLoop_any
    (fun k s' => ∃ h' tk i, s' = { s with heap := h', toks := tk } ∧ St i h' ∧ J i h' ∧ i ≤ n ∧ k = n + 1 - i) ?_ (n + 1)
    ⟨s.heap, s.toks, 0, rfl, hst, h0, Nat.zero_le _, rfl⟩
  rintro k s' ⟨h', tk, i, rfl, hst', hJ, hi, rfl⟩
  by_cases hlt : i < n
  · refine W.item i _ _ _ hlt hst' fun v h₁ tk₁ hMd hk₁ => ?_
    refine W.go i v _ _ _ hMd fun h₂ hP hst₂ hk₂ => ?_
    have hJ₂ := stab i _ _ hJ (ex _ _ hst') (fun b o hb x => hk₂ b o hb (hk₁ b o hb x)) (ex _ _ hst₂)
    refine wpAny_mono (step i v h₂ tk₁ hlt hP hJ₂ hst₂) (fun _ s₂ h₂' => wpAny_mono h₂' (fun f s₃ h₃ => ?_) fun _ _ e => e) fun _ _ e => e
    cases f with
    | ret v => exact h₃
    | brk => exact h₃
    | cont =>
      obtain ⟨h₃', tk₃, rfl, hJ₃, hf⟩ := h₃
      exact ⟨n + 1 - (i + 1), by omega, h₃', tk₃, i + 1, rfl, W.frame _ _ _ hst₂ hf, hJ₃, hlt, rfl⟩
    | next =>
      obtain ⟨h₃', tk₃, rfl, hJ₃, hf⟩ := h₃
      exact ⟨n + 1 - (i + 1), by omega, h₃', tk₃, i + 1, rfl, W.frame _ _ _ hst₂ hf, hJ₃, hlt, rfl⟩
  · have hin : i = n := by omega
    subst hin
    refine W.done _ _ _ hst' fun h₁ tk₁ hk₁ => wpAny_execs_nil ?_
    exact hR _ h₁ tk₁ hJ hk₁

noncomputable def AtH (prog : Program) (w : World) (A : Around) (env : Env) (target : Expr) (body : List Stmt) (Q : Flow → Shared → Prop) (E : Value → Shared → Prop) (it : Value) (s₂ : Shared) : Prop :=
  ∃ (I : Addr) (fp wr : List Addr) (n : Nat) (P Md : Nat → Value → Heap → Prop) (St : Nat → Heap → Prop) (J : Nat → Heap → Prop) (Ex : Heap → Prop),
    it = .ref I ∧ KTurns prog w A target I fp wr n P Md St ∧ St 0 s₂.heap ∧ J 0 s₂.heap ∧
    (∀ i h, St i h → Ex h) ∧ (∀ i h h', J i h → Ex h → Kept wr h h' → Ex h' → J i h') ∧
    (∀ i v h tk, i < n → P i v h → J i h → St (i + 1) h → wpAny (model prog w) A (assign target env v) (fun _ s₃ => wpAny (model prog w) A (execs body env) (StepH fp (J (i + 1)) h s₂ Q) E s₃) E { s₂ with heap := h, toks := tk }) ∧
    ∀ h h' tk, J n h → Kept wr h h' → Q .next { s₂ with heap := h', toks := tk }

theorem For_H {iter : Expr} {pos : Pos}
    (h : wpAny (model prog w) A (eval iter env) (fun xv s₁ => wpAny (model prog w) A (pyIter xv) (fun it s₂ => AtH prog w A env target body Q E it s₂) E s₁) E s)
    (hs : ∀ x, foldedSetIterable iter env x = pure x)
    (hE : PassesOwn (model prog w) A env E) :
    wpAny (model prog w) A (exec (.For target iter body [] pos) env) Q E s := by
  refine wpAny_For (wpAny_mono h (fun xv s₁ h₁ => wpAny_mono h₁ (fun it s₂ h₂ => ?_) fun _ _ e => e) fun _ _ e => e) hs
  obtain ⟨I, fp, wr, n, P, Md, St, J, Ex, rfl, W, hst, h0, ex, stab, step, hQ⟩ := h₂
  exact loopH (R := fun r s' => match r with | .ok f => Q f s' | .error e => cameBackBy (model prog w) A env E e s') W hst h0 ex stab
    (fun i v h₁ tk₁ a b c d => wpAny_mono (step i v h₁ tk₁ a b c d) (fun _ _ x => wpAny_passesOwn hE x) hE) hQ

/-- an iterator's objects: new ones, and the lists it walks -/
structure IterOf (h : Heap) (ls fp wr : List Addr) (h' : Heap) : Prop where
  src : ∀ b ∈ fp, b ∈ ls ∨ b ∈ wr
  wrs : ∀ b ∈ wr, b ∈ fp ∧ h.get? b = none
  up : ∀ b o, h.get? b = some o → h'.get? b = some o
  there : ∀ b ∈ fp, ∃ o, h'.get? b = some o
  nd : wr.Nodup
/-- what a loop's turns must show -/
inductive TurnsHJ (prog : Program) (w : World) (A : Around) (env : Env) (target : Expr) (body : List Stmt) (Q : Flow → Shared → Prop) (E : Value → Shared → Prop) (s : Shared) (ls : List Addr) (n : Nat) (P : Nat → Value → Heap → Prop) (fp wr : List Addr) (h' : Heap) : Prop
  | mk (J : Nat → Heap → Prop) : (J 0 h') → ((∀ i h h', J i h → Kept wr h h' → (∀ b ∈ fp, ∃ o, h'.get? b = some o) → J i h')) → ((∀ i v h tk, i < n → P i v h → J i h → (∀ b ∈ fp, ∃ o, h.get? b = some o) → wpAny (model prog w) A (assign target env v) (fun _ s₃ => wpAny (model prog w) A (execs body env) (StepH fp (J (i + 1)) h s Q) E s₃) E { s with heap := h, toks := tk })) → (∀ h h' tk, J n h → Kept wr h h' → Q .next { s with heap := h', toks := tk }) → TurnsHJ prog w A env target body Q E s ls n P fp wr h'
noncomputable def TurnsH (prog : Program) (w : World) (A : Around) (env : Env) (target : Expr) (body : List Stmt) (Q : Flow → Shared → Prop) (E : Value → Shared → Prop) (s : Shared) (ls : List Addr) (n : Nat) (P : Nat → Value → Heap → Prop) : Prop :=
  ∀ fp wr h', IterOf s.heap ls fp wr h' → TurnsHJ prog w A env target body Q E s ls n P fp wr h'

/-- the same, where it is known that the iterator's objects are no tuples -/
inductive TurnsEJ (prog : Program) (w : World) (A : Around) (env : Env) (target : Expr) (body : List Stmt) (Q : Flow → Shared → Prop) (E : Value → Shared → Prop) (s : Shared) (ls : List Addr) (n : Nat) (P : Nat → Value → Heap → Prop) (fp wr : List Addr) (h' : Heap) : Prop
  | mk (J : Nat → Heap → Prop) : (J 0 h') → ((∀ i h h', J i h → (∀ b ∈ wr, ∀ o, h.get? b = some o → o.cls ≠ .type "tuple") → Kept wr h h' → (∀ b ∈ fp, ∃ o, h'.get? b = some o) → (∀ b ∈ wr, ∀ o, h'.get? b = some o → o.cls ≠ .type "tuple") → J i h')) → ((∀ i v h tk, i < n → P i v h → J i h → (∀ b ∈ fp, ∃ o, h.get? b = some o) → (∀ b ∈ wr, ∀ o, h.get? b = some o → o.cls ≠ .type "tuple") → wpAny (model prog w) A (assign target env v) (fun _ s₃ => wpAny (model prog w) A (execs body env) (StepH fp (J (i + 1)) h s Q) E s₃) E { s with heap := h, toks := tk })) → (∀ h h' tk, J n h → Kept wr h h' → Q .next { s with heap := h', toks := tk }) → TurnsEJ prog w A env target body Q E s ls n P fp wr h'
noncomputable def TurnsE (prog : Program) (w : World) (A : Around) (env : Env) (target : Expr) (body : List Stmt) (Q : Flow → Shared → Prop) (E : Value → Shared → Prop) (s : Shared) (ls : List Addr) (n : Nat) (P : Nat → Value → Heap → Prop) : Prop :=
  ∀ fp wr h', IterOf s.heap ls fp wr h' → TurnsEJ prog w A env target body Q E s ls n P fp wr h'
theorem none_of_le {h : Heap} {b : Addr} (hb : h.objs.size ≤ b) : h.get? b = none := by
  cases e : h.get? b with
  | none => rfl
  | some o => exact absurd (Heap.lt_size e) (Nat.not_lt.mpr hb)

theorem nd2 (n : Nat) : [n + 1, n].Nodup := by simp
theorem nd4 (n : Nat) : [n + 4, n + 2, n + 3, n, n + 1].Nodup := by simp
theorem list_H {l : Addr} {vs : List Value} (hh : A.handled = none) (hl : s.heap.IsList l vs.toArray)
    (H : TurnsH prog w A env target body Q E s [l] vs.length fun i v _ => vs[i]? = some v) :
    wpAny (model prog w) A (pyIter (.ref l)) (fun it s₂ => AtH prog w A env target body Q E it s₂) E s := by
  have hne : l ≠ s.heap.objs.size := by obtain ⟨_, e, _⟩ := hl; exact Nat.ne_of_lt (Heap.lt_size e)
  refine wpAny_pyIter_list hl ?_
  have ex : ∀ (i : Nat) (h : Heap), (h.IsListIter s.heap.objs.size l i ∧ h.IsList l vs.toArray) → ∀ b ∈ [s.heap.objs.size, l], ∃ o, h.get? b = some o := fun i h hst b hb => by
    rcases List.mem_cons.mp hb with rfl | hb
    · obtain ⟨o, e, _⟩ := hst.1; exact ⟨o, e⟩
    · rw [List.mem_singleton.mp hb]; obtain ⟨o, e, _⟩ := hst.2; exact ⟨o, e⟩
  have T := KTurns.ofWalks (target := target) (Walks.list (prog := prog) (w := w) hh s.heap.objs.size l hne vs.toArray) fun i v s Q E st q => letGo_listiter st.1 q
  obtain ⟨J, h0, stab, step, done⟩ := H [s.heap.objs.size, l] [s.heap.objs.size] (s.heap.push { cls := .type "list_iterator", data := .fields #[.ref l, .int 0 0] })
    ⟨fun b hb => by
      rcases List.mem_cons.mp hb with rfl | hb
      · exact .inr (by simp)
      · exact .inl hb, fun b hb => by rw [List.mem_singleton.mp hb]; exact ⟨List.mem_cons_self, none_of_le (Nat.le_refl _)⟩, fun b o e => Heap.get?_push_of_some _ e, fun b hb => by
      rcases List.mem_cons.mp hb with rfl | hb
      · exact ⟨_, Heap.get?_push_size _ rfl⟩
      · rw [List.mem_singleton.mp hb]; obtain ⟨o, e, _⟩ := hl; exact ⟨o, Heap.get?_push_of_some _ e⟩, by simp⟩
  refine ⟨_, _, _, _, _, _, _, J, _, rfl, T, ⟨⟨_, Heap.get?_push_size _ rfl, rfl, rfl⟩, hl.at fun o e => Heap.get?_push_of_some _ e⟩, h0, ex, fun i h h' a _ => stab i h h' a, ?_, by simpa using done⟩
  intro i v h tk hi hP hJ hst
  exact step i v h tk (by simpa using hi) (by simpa using hP) hJ (ex _ _ hst)

theorem range_H {r : Addr} {a₀ b₀ : Int} {t₀ u₀ v₀ : Tok} {n : Nat} (hh : A.handled = none) (hr : IsRange s.heap r a₀ b₀ 1 t₀ u₀ v₀) (hsmall : Builtin.Range.small a₀ b₀ 1 = true) (hn : Builtin.Range.rangeSize a₀ b₀ 1 = (n : Int))
    (hgo : ∀ I i v (s : Shared) (Q : Unit → Shared → Prop) (E : Value → Shared → Prop), IsRangeIter s.heap I (a₀ + (i : Nat) * 1) ((n : Int) - (i : Nat)) 1 → Q () s → wpAny (model prog w) A (letOwnedTupleGo target (.ref I) v) Q E s)
    (H : TurnsH prog w A env target body Q E s [] n fun i v _ => ∃ t, v = .int (a₀ + i) t) :
    wpAny (model prog w) A (pyIter (.ref r)) (fun it s₂ => AtH prog w A env target body Q E it s₂) E s := by
  refine wpAny_pyIter_range hr hsmall ?_
  have T := KTurns.ofWalks (target := target) (Walks.range (prog := prog) (w := w) hh s.heap.objs.size a₀ 1 n) fun i v s Q E st q => hgo _ i v s Q E st q
  have ex : ∀ (i : Nat) (h : Heap), IsRangeIter h s.heap.objs.size (a₀ + (i : Nat) * 1) ((n : Int) - (i : Nat)) 1 → ∀ b ∈ [s.heap.objs.size], ∃ o, h.get? b = some o := fun i h hst b hb => by
    have e := List.mem_singleton.mp hb
    subst e
    exact ⟨_, hst⟩
  have hI : IsRangeIter (s.heap.push { cls := .type "range_iterator", data := .fields #[rawInt a₀, rawInt (Builtin.Range.rangeSize a₀ b₀ 1), rawInt 1] }) s.heap.objs.size a₀ (Builtin.Range.rangeSize a₀ b₀ 1) 1 := Heap.get?_push_size _ rfl
  obtain ⟨J, h0, stab, step, done⟩ := H [s.heap.objs.size] [s.heap.objs.size] (s.heap.push { cls := .type "range_iterator", data := .fields #[rawInt a₀, rawInt (Builtin.Range.rangeSize a₀ b₀ 1), rawInt 1] })
    ⟨fun b hb => .inr hb, fun b hb => by rw [List.mem_singleton.mp hb]; exact ⟨List.mem_cons_self, none_of_le (Nat.le_refl _)⟩, fun b o e => Heap.get?_push_of_some _ e, fun b hb => by
      rw [List.mem_singleton.mp hb]; exact ⟨_, hI⟩, by simp⟩
  refine ⟨_, _, _, _, _, _, _, J, _, rfl, T, by rw [hn] at hI ⊢; simpa using hI, h0, ex, fun i h h' a _ => stab i h h' a, ?_, done⟩
  rintro i v h tk hi ⟨t, rfl⟩ hJ hst
  refine step i _ h tk hi ⟨t, by simp⟩ hJ fun b hb => ?_
  exact ex _ _ hst b hb

theorem all3 {P : Addr → Prop} {a b c : Addr} (h1 : P a) (h2 : P b) (h3 : P c) : ∀ x ∈ [a, b, c], P x := by
  simp only [List.forall_mem_cons]
  exact ⟨h1, h2, h3, fun _ h => by cases h⟩
theorem ge2 {n b : Nat} (h : b ∈ [n + 1, n]) : n ≤ b := by
  simp only [List.mem_cons, List.not_mem_nil, or_false] at h
  omega
theorem enum_H {elts : List Expr} {k : Nat} {pos : Pos} {l : Addr} {vs : List Value} (hh : A.handled = none) (hl : s.heap.IsList l vs.toArray)
    (H : TurnsE prog w A env (.Tuple elts k pos) body Q E s [l] vs.length fun i v h => ∃ T t x, v = .ref T ∧ vs[i]? = some x ∧ h.IsTuple T #[.int i t, x]) :
    wpAny (model prog w) A (call (.type "enumerate") [.ref l]) (fun xv s₁ => wpAny (model prog w) A (pyIter xv) (fun it s₂ => AtH prog w A env (.Tuple elts k pos) body Q E it s₂) E s₁) E s := by
  have hlt : l < s.heap.objs.size := by obtain ⟨_, e, _⟩ := hl; exact Heap.lt_size e
  refine call_enumerate_list hl fun h' hE hI hsz hk => ?_
  refine wpAny_pyIter_enum hE ?_
  have T := KTurns.ofWalksU (elts := elts) (k := k) (pos := pos) (WalksT.enumerate (prog := prog) (w := w) hh (s.heap.objs.size + 1) s.heap.objs.size l (Nat.succ_ne_self _) (ktu_ne 1 hlt) (Nat.ne_of_lt hlt) vs.toArray).toU
  have ex : ∀ (i : Nat) (h : Heap), ((∃ old, IsEnum h (s.heap.objs.size + 1) s.heap.objs.size i old) ∧ h.IsListIter s.heap.objs.size l i ∧ h.IsList l vs.toArray) → ∀ b ∈ [s.heap.objs.size + 1, s.heap.objs.size, l], ∃ o, h.get? b = some o := fun i h hst =>
    all3 (P := fun b => ∃ o, h.get? b = some o) (let ⟨_, e⟩ := hst.1; ⟨_, e⟩) (let ⟨o, e, _⟩ := hst.2.1; ⟨o, e⟩) (let ⟨o, e, _⟩ := hst.2.2; ⟨o, e⟩)
  have nt : ∀ (i : Nat) (h : Heap), ((∃ old, IsEnum h (s.heap.objs.size + 1) s.heap.objs.size i old) ∧ h.IsListIter s.heap.objs.size l i ∧ h.IsList l vs.toArray) → ∀ b ∈ [s.heap.objs.size + 1, s.heap.objs.size], ∀ o, h.get? b = some o → o.cls ≠ .type "tuple" := fun i h hst b hb o e => by
    obtain ⟨⟨old, he⟩, ⟨o2, hit, hc, _⟩, _⟩ := hst
    have hb' : b = s.heap.objs.size + 1 ∨ b = s.heap.objs.size := by simpa using hb
    rcases hb' with rfl | rfl
    · rw [he] at e; cases e; show Value.type "enumerate" ≠ Value.type "tuple"; decide
    · rw [hit] at e; cases e; rw [hc]; decide
  obtain ⟨J, h0, stab, step, done⟩ := H [s.heap.objs.size + 1, s.heap.objs.size, l] [s.heap.objs.size + 1, s.heap.objs.size] h'
    ⟨fun b hb => (List.mem_append.mp (show b ∈ [s.heap.objs.size + 1, s.heap.objs.size] ++ [l] from hb)).elim .inr .inl,
      fun b hb => ⟨List.mem_append_left [l] hb, none_of_le (ge2 hb)⟩, hk,
      all3 (P := fun b => ∃ o, h'.get? b = some o) ⟨_, hE⟩ (let ⟨o, e, _⟩ := hI; ⟨o, e⟩) (let ⟨o, e, _⟩ := hl; ⟨o, hk _ _ e⟩), nd2 _⟩
  refine ⟨_, _, _, _, _, _, _, J, (fun h => (∀ b ∈ [s.heap.objs.size + 1, s.heap.objs.size, l], ∃ o, h.get? b = some o) ∧ ∀ b ∈ [s.heap.objs.size + 1, s.heap.objs.size], ∀ o, h.get? b = some o → o.cls ≠ .type "tuple"), rfl, T, ⟨⟨.none, hE⟩, hI, hl.at fun o e => hk l o e⟩, h0, fun i h st => ⟨ex i h st, nt i h st⟩, fun i h h' a b c d => stab i h h' a b.2 c d.1 d.2, ?_, by simpa using done⟩
  rintro i v h tk hi ⟨T, vals, rfl, ⟨t, x, hx, rfl⟩, hT⟩ hJ hst
  exact step i _ h tk (by simpa using hi) ⟨T, t, x, rfl, by simpa using hx, hT⟩ hJ (ex _ _ hst) (nt _ _ hst)

theorem all7 {P : Addr → Prop} {a b c d e f g : Addr} (h1 : P a) (h2 : P b) (h3 : P c) (h4 : P d) (h5 : P e) (h6 : P f) (h7 : P g) : ∀ x ∈ [a, b, c, d, e, f, g], P x := by
  simp only [List.forall_mem_cons]
  exact ⟨h1, h2, h3, h4, h5, h6, h7, fun _ h => by cases h⟩
theorem ge5 {n b : Nat} (h : b ∈ [n + 4, n + 2, n + 3, n, n + 1]) : n ≤ b := by
  simp only [List.mem_cons, List.not_mem_nil, or_false] at h
  omega
theorem sub45 (n : Nat) : ∀ a ∈ [n + 4, n + 3, n, n + 1], a ∈ [n + 4, n + 2, n + 3, n, n + 1] := fun a ha => by
  simp only [List.mem_cons, List.not_mem_nil, or_false] at ha ⊢
  exact ha.elim .inl fun h => .inr (.inr h)
theorem zip_H {elts : List Expr} {k : Nat} {pos : Pos} {l1 l2 : Addr} {xs ys : List Value} (hh : A.handled = none) (hl1 : s.heap.IsList l1 xs.toArray) (hl2 : s.heap.IsList l2 ys.toArray)
    (H : TurnsH prog w A env (.Tuple elts k pos) body Q E s [l1, l2] (min xs.length ys.length) fun i v h => ∃ T x y, v = .ref T ∧ xs[i]? = some x ∧ ys[i]? = some y ∧ h.IsTuple T #[x, y]) :
    wpAny (model prog w) A (call (.type "zip") [.ref l1, .ref l2]) (fun xv s₁ => wpAny (model prog w) A (pyIter xv) (fun it s₂ => AtH prog w A env (.Tuple elts k pos) body Q E it s₂) E s₁) E s := by
  have hlt1 : l1 < s.heap.objs.size := by obtain ⟨_, e, _⟩ := hl1; exact Heap.lt_size e
  have hlt2 : l2 < s.heap.objs.size := by obtain ⟨_, e, _⟩ := hl2; exact Heap.lt_size e
  have D : ZipApart (s.heap.objs.size + 4) (s.heap.objs.size + 2) (s.heap.objs.size + 3) s.heap.objs.size (s.heap.objs.size + 1) l1 l2 := ktu_apart _ _ _ hlt1 hlt2
  refine call_zip_2 hl1 hl2 fun h' hz hTI hTO hi1 hi2 hsz hk => ?_
  refine wpAny_pyIter_zip hz ?_
  have T := KTurns.ofWalksU (elts := elts) (k := k) (pos := pos) (WalksT.zip2 (prog := prog) (w := w) hh _ _ _ _ _ _ _ D xs.toArray ys.toArray).toU
  have ex : ∀ (i : Nat) (h : Heap), (IsZip h (s.heap.objs.size + 4) (s.heap.objs.size + 2) (s.heap.objs.size + 3) .none ∧ IsPair h (s.heap.objs.size + 2) (.ref s.heap.objs.size) (.ref (s.heap.objs.size + 1)) ∧ (∃ a b, IsPair h (s.heap.objs.size + 3) a b) ∧ h.IsListIter s.heap.objs.size l1 i ∧ h.IsListIter (s.heap.objs.size + 1) l2 i ∧ h.IsList l1 xs.toArray ∧ h.IsList l2 ys.toArray) →
      ∀ b ∈ [s.heap.objs.size + 4, s.heap.objs.size + 2, s.heap.objs.size + 3, s.heap.objs.size, s.heap.objs.size + 1, l1, l2], ∃ o, h.get? b = some o := fun i h hst =>
    all7 (P := fun b => ∃ o, h.get? b = some o) ⟨_, hst.1⟩ ⟨_, hst.2.1⟩ (let ⟨_, _, e⟩ := hst.2.2.1; ⟨_, e⟩) (let ⟨o, e, _⟩ := hst.2.2.2.1; ⟨o, e⟩) (let ⟨o, e, _⟩ := hst.2.2.2.2.1; ⟨o, e⟩) (let ⟨o, e, _⟩ := hst.2.2.2.2.2.1; ⟨o, e⟩) (let ⟨o, e, _⟩ := hst.2.2.2.2.2.2; ⟨o, e⟩)
  have mm := sub45 s.heap.objs.size
  obtain ⟨J, h0, stab, step, done⟩ := H [s.heap.objs.size + 4, s.heap.objs.size + 2, s.heap.objs.size + 3, s.heap.objs.size, s.heap.objs.size + 1, l1, l2] [s.heap.objs.size + 4, s.heap.objs.size + 2, s.heap.objs.size + 3, s.heap.objs.size, s.heap.objs.size + 1] h'
    ⟨fun b hb => (List.mem_append.mp (show b ∈ [s.heap.objs.size + 4, s.heap.objs.size + 2, s.heap.objs.size + 3, s.heap.objs.size, s.heap.objs.size + 1] ++ [l1, l2] from hb)).elim .inr .inl,
      fun b hb => ⟨List.mem_append_left [l1, l2] hb, none_of_le (ge5 hb)⟩, hk,
      all7 (P := fun b => ∃ o, h'.get? b = some o) ⟨_, hz⟩ ⟨_, hTI⟩ ⟨_, hTO⟩ (let ⟨o, e, _⟩ := hi1; ⟨o, e⟩) (let ⟨o, e, _⟩ := hi2; ⟨o, e⟩) (let ⟨o, e, _⟩ := hl1; ⟨o, hk _ _ e⟩) (let ⟨o, e, _⟩ := hl2; ⟨o, hk _ _ e⟩), nd4 _⟩
  refine ⟨_, _, _, _, _, _, _, J, _, rfl, T, ⟨hz, hTI, ⟨_, _, hTO⟩, hi1, hi2, hl1.at fun o e => hk l1 o e, hl2.at fun o e => hk l2 o e⟩, h0, ex, fun i h h' hJ _ k => stab i h h' hJ (k.mono mm), ?_, fun h h' tk hJ k => done h h' tk (by simpa using hJ) (k.mono mm)⟩
  rintro i v h tk hi ⟨T, vals, rfl, ⟨x, y, hx, hy, rfl⟩, hT⟩ hJ hst
  exact step i _ h tk (by simpa using hi) ⟨T, x, y, rfl, by simpa using hx, by simpa using hy, hT⟩ hJ (ex _ _ hst)
end
section
variable {prog : Program} {w : World} {A : Around} {E : Value → Shared → Prop} {s : Shared} {a b : Addr} {vs : List Value} {v : Value} {Q : Value → Shared → Prop}
theorem eq_nilT (ha : s.heap.IsList a ([] : List Value).toArray) (hb : s.heap.IsList b ([] : List Value).toArray) (hu : A.units < cLine) (h : Q (.bool true) s) : wpAny (model prog w) A (compareOp .Eq (.ref a) (.ref b)) Q E s :=
  SeqAt.eq_listAt (e := fun _ => true) ha hb rfl hu (fun j h1 _ => absurd h1 (Nat.not_lt_zero j)) h
theorem eq_nilF (ha : s.heap.IsList a (vs ++ [v]).toArray) (hb : s.heap.IsList b ([] : List Value).toArray) (hu : A.units < cLine) (h : Q (.bool false) s) : wpAny (model prog w) A (compareOp .Eq (.ref a) (.ref b)) Q E s :=
  SeqAt.eq_list_lengthsAt ha hb (by simp) hu h
end
section
variable {prog : Program} {w : World} {A : Around} {E : Value → Shared → Prop} {s : Shared} {h₀ : Heap} {L D : Addr} {m : Str → Option Value} {news news' : List (Addr × Obj)} {n : Nat}
theorem lpop_K {p : List Value} {y : Value} {Q : Value → Shared → Prop} (F : Fr h₀ L s.heap m) (N : News h₀ L s.heap news) (U : Upd D (listOf (p ++ [y]).toArray n) (listOf p.toArray (n + 1)) news news')
    (hz : (p ++ [y]).length ≤ sizeLine) (h : ∀ h', Fr h₀ L h' m → News h₀ L h' news' → Q y { s with heap := h' }) : wpAny (model prog w) A (call (.builtin "list.pop") [.ref D]) Q E s :=
  kl_pop F N (by simpa using kpa_last y p) U (by simpa using hz) h
theorem cat_K {a b : Addr} {vs ws : List Value} {news : List (Addr × Obj)} {Q : Value → Shared → Prop} (F : Fr h₀ L s.heap m) (N : News h₀ L s.heap news) (ha : s.heap.IsList a vs.toArray) (hb : s.heap.IsList b ws.toArray) (hz : vs.length + ws.length ≤ sizeLine)
    (h : ∀ D h', Fr h₀ L h' m → News h₀ L h' ((D, listOf (vs ++ ws).toArray 0) :: news) → (∀ p ∈ news, p.1 < D) → s.heap.get? D = none → Q (.ref D) { s with heap := h' }) : wpAny (model prog w) A (binaryOp .Add (.ref a) (.ref b)) Q E s :=
  add_lists F N ha hb (fun h' F' N' => h _ h' F' N' (fun p hp => Heap.lt_size (N p hp).1) (Heap.get?_none_of_le (Nat.le_refl _))) hz
end
section
variable {prog : Program} {w : World} {A : Around} {E : Value → Shared → Prop} {s : Shared} {x y : Str} {t u : Tok} {Q : Value → Shared → Prop}
theorem str_eqF (hn : x ≠ y) (h : Q (.bool false) s) : wpAny (model prog w) A (compareOp .Eq (.str x t) (.str y u)) Q E s := eq_str (by rw [show (x == y) = false from by simpa using hn]; exact h)
theorem str_neT (hn : x ≠ y) (h : Q (.bool true) s) : wpAny (model prog w) A (compareOp .NotEq (.str x t) (.str y u)) Q E s := ne_str (by rw [show (x != y) = true from by simpa using hn]; exact h)
end
section
variable {prog : Program} {w : World} {A : Around} {E : Value → Shared → Prop} {s : Shared} {h₀ : Heap} {L D : Addr} {news : List (Addr × Obj)} {vs : List Value} {c : Nat} {Q : Value → Shared → Prop}
theorem llen_K (N : News h₀ L s.heap news) (hm : (D, listOf vs.toArray c) ∈ news) (hf : vs.length < 1000) (h : Q (.int (vs.length : Nat) (s.toks + 1)) { s with toks := s.toks + 1 + 1 }) :
    wpAny (model prog w) A (call (.builtin "len") [.ref D]) Q E s := by
  have hl : s.heap.IsList D vs.toArray := ⟨_, (N _ hm).1, rfl, c, rfl⟩
  refine Calls.call_len_list hl (by rw [List.size_toArray]; omega) ?_
  rw [List.size_toArray]; exact h
end
theorem in2F {prog : Program} {w : World} {A : Around} {E : Value → Shared → Prop} {s : Shared} {x a b : Str} {t ta tb : Tok} {T : Addr} {Q : Value → Shared → Prop} (ht : s.heap.IsTuple T #[.str a ta, .str b tb]) (h1 : x ≠ a) (h2 : x ≠ b) (h : Q (.bool false) s) :
    wpAny (model prog w) A (compareOp .In (.str x t) (.ref T)) Q E s := by
  refine SeqAt.in_tupleAt (fun _ => false) ht (fun y hy => ?_) (by simpa using h)
  have hy' : y = .str a ta ∨ y = .str b tb := by simpa using hy
  rcases hy' with rfl | rfl
  · have := SeqAt.EqAt.str_str (A := A.in1) (s := s) a ta x t
    rwa [show (a == x) = false from by simpa using Ne.symm h1] at this
  · have := SeqAt.EqAt.str_str (A := A.in1) (s := s) b tb x t
    rwa [show (b == x) = false from by simpa using Ne.symm h2] at this
theorem fresh_rest {g h : Heap} {L D : Addr} {as : List Addr} (hg : g.get? D = none) (hL : D ≠ L) (ha : D ∉ as) (hlt : AllLt D (restOf g h L as)) : h.get? D = none := by
  have all : ∀ {l : List (Addr × Obj)}, AllLt D l → ∀ p ∈ l, @LT.lt Nat _ p.1 D := by
    intro l
    induction l with
    | nil => intro _ p hp; cases hp
    | cons q l ih =>
      intro h p hp
      rcases List.mem_cons.mp hp with rfl | hp
      · exact h.1
      · exact ih h.2 p hp
  cases e : h.get? D with
  | none => rfl
  | some o => exact absurd (all hlt (D, o) (mem_restOf.mpr ⟨e, hL, ha, hg⟩)) (Nat.lt_irrefl _)
theorem pick_upto {vs : List Value} {n : Nat} : (slicePick vs.toArray none (some (n : Int)) none).toList = vs.take n := by
  have e : sliceBounds none (some (n : Int)) none vs.toArray.size = (((0 : Nat) : Int), ((min n vs.toArray.size : Nat) : Int), 1) := by
    simp only [sliceBounds, Option.getD_none, show (1 : Int) > 0 by decide, if_true, if_neg (show ¬ ((n : Int) < 0) by omega)]
    congr 1
    congr 1
    omega
  rw [kmk_pick_nat _ e]
  show (vs.drop 0).take (min n vs.toArray.size - 0) = _
  rw [List.drop_zero, Nat.sub_zero, List.size_toArray, kmk_take_min]
theorem ints_concat {vs : List Value} {ns : List Int} {n : Int} (h : IntsAre vs (ns ++ [n])) : ∃ us t, vs = us ++ [.int n t] ∧ IntsAre us ns := by
  induction ns generalizing vs with
  | nil =>
    obtain ⟨t, rfl⟩ : ∃ t, vs = [.int n t] := by
      cases h with
      | cons _ t r => cases r; exact ⟨t, rfl⟩
    exact ⟨[], t, rfl, .nil⟩
  | cons m ns ih =>
    cases h with
    | cons _ t r =>
      obtain ⟨us, u, rfl, h2⟩ := ih r
      exact ⟨_ :: us, u, rfl, .cons _ _ h2⟩
theorem ints_snoc {vs : List Value} {ns : List Int} {n : Int} {t : Tok} (h : IntsAre vs ns) : IntsAre (vs ++ [.int n t]) (ns ++ [n]) := by
  induction h with
  | nil => exact .cons _ _ .nil
  | cons k t r ih => exact .cons _ _ ih
theorem All2.take {α β : Type} {P : α → β → Prop} {as : List α} {bs : List β} (x : All2 P as bs) : ∀ n, All2 P (as.take n) (bs.take n) := by
  induction x with
  | nil => intro n; cases n <;> exact .nil
  | cons h _ ih =>
    intro n
    cases n with
    | zero => exact .nil
    | succ n => exact .cons h (ih n)
theorem lines_D8 : True := by
  k_with_none
  (k_with "execs cons" => (k_here; first | ((fail_if_success (fail_if_success k_gentoks)); (refine tok_letter ?_); intro tk) | ((fail_if_success (with_reducible show wpAny _ _ _ (Behind _) _ _)); (with_reducible refine Q_letter ?_); intro Q9 hQ9) | (with_reducible refine execs_one ?_) | (with_reducible refine execs_cons_L ?_; intro Q9 hQ9)))
  (k_with "Behind" => ((rename (∀ f s', _ → Behind _ f s') => hB9); first | ((with_reducible refine hB9 _ _ ?_); (try dsimp only)) | (clear hB9; k_extra "Behind")))
  (k_with "BehindE" => ((rename (∀ e s', _ → BehindE _ e s') => hB9); first | ((with_reducible refine hB9 _ _ ?_); (try dsimp only)) | (clear hB9; k_extra "BehindE")))
  (k_with "m letter" => (first | (with_reducible show wpAny _ _ _ (Behind _) (BehindE _) _) | (with_reducible show wpAny _ _ _ _ (BehindE _) _; refine Q_letter ?_; intro Q9 hQ9) | (with_reducible refine QE_letter (by passes_own) ?_; intro Q9 E9 hQ9 hE9 hP9) | (refine Q_letter ?_; intro Q9 hQ9)))
  (k_with "call ref" => (k_here; (with_reducible show wpAny _ _ (call (Value.ref 44) [Value.str _ _]) _ _ _); k_dflt (refine' fault_call_K ?BzD81 ?FzD81 ?XzD81 ?TzD81 ?NzD81 ?AzD81 ?fzD81 ?kzD81 ?rzD81 ?_; (case BzD81 => k_asm); (case FzD81 => k_asm); (case XzD81 => k_asm); (case TzD81 => k_asm); (case NzD81 => k_asm); (case AzD81 => exact rfl); (case fzD81 => exact rfl); (case kzD81 => exact rfl); (case rzD81 => k_room); k_whole); intro _ _ _ _ _ _; (try dsimp only)))
  (k_with "exec Raise some none" => (k_here; k_dflt (refine raise44_exec rfl ?_)))
  (k_with "RaisableF" => ((rename MadeFault _ _ _ => hM9); obtain ⟨t9, dd9, he9⟩ := MadeFault.there hM9; refine ⟨_, _, _, rfl, faultCls (Frag.In.keeps (by k_asm) (Fr.keep (by k_asm))), he9, ?_⟩; clear he9))
  (k_with "leaving ref" => (k_here; (with_reducible show wpAny _ (Around.deeper _ (envOf _ _ _ _ _)) _ _ _ _); first | ((rename FaultOut _ _ _ _ _ => hR9); refine leave_faultOn (by assumption) (by assumption) hR9 ?_; intro h9 R9) | ((rename MadeFault _ _ _ => hM9); refine leave_fault (by assumption) hM9 (by assumption) ?_ rfl; intro _ _)))
  (k_with "setItem ref int" => (k_here; (with_reducible show wpAny _ _ (setItem (Value.ref _) (Value.int _ _) _) _ _ _); k_dflt (refine' rset_K ?FzD85 ?NzD85 ?UzD85 ?dzD85 ?zzD85 ?_; (case FzD85 => k_asm); (case NzD85 => k_asm); (case UzD85 => k_updF); (case dzD85 => assumption); (case zzD85 => ktr_units); k_whole); intro _ _ _ _ _))
  (k_with "call builtin:dict.pop" => (k_here; k_dflt (first | (refine' rpop_none ?NzD86 ?mzD86 ?lzD86 ?dzD86 ?vzD86 ?_; (case NzD86 => k_asm); (case mzD86 => k_mem); (case lzD86 => assumption); (case dzD86 => assumption); (case vzD86 => assumption); k_whole) | (refine' rpop_some ?FzD86 ?NzD86 ?UzD86 ?dzD86 ?vzD86 ?zzD86 ?_; (case FzD86 => k_asm); (case NzD86 => k_asm); (case UzD86 => k_updF); (case dzD86 => assumption); (case vzD86 => assumption); (case zzD86 => ktr_units); k_whole; intro _ _ _ _ _))))
  (k_with "compareOp In int ref" => (k_here; k_dflt (first | (refine' rin_none ?ezD87 ?lzD87 ?dzD87 ?vzD87 ?_; (case ezD87 => ktr_unf); (case lzD87 => assumption); (case dzD87 => assumption); (case vzD87 => assumption); k_whole) | (refine' rin_some ?ezD87 ?lzD87 ?dzD87 ?vzD87 ?_; (case ezD87 => ktr_unf); (case lzD87 => assumption); (case dzD87 => assumption); (case vzD87 => assumption); k_whole))))
  (k_with "subscriptTail" => (k_here; (with_reducible show wpAny _ _ (subscriptTail _ _ (Value.ref _) (Value.int _ _)) _ _ _); k_dflt (refine' ritem_K ?ezD88 ?dzD88 ?vzD88 ?_ (by with_unfolding_all rfl) (by intro _; with_unfolding_all rfl); (case ezD88 => ktr_unf); (case dzD88 => assumption); (case vzD88 => assumption); k_whole)))
  (k_with "call type:dict" => (k_here; (with_reducible show wpAny _ _ (call (Value.type "dict") [Value.ref _]) _ _ _); k_dflt (refine' rcopy_K ?FzD89 ?NzD89 ?bzD89 ?ezD89 ?lzD89 ?dzD89 ?zzD89 ?_; (case FzD89 => k_asm); (case NzD89 => k_asm); (case bzD89 => exact Top.nolimit (by assumption)); (case ezD89 => ktr_unf); (case lzD89 => assumption); (case dzD89 => assumption); (case zzD89 => ktr_units); k_whole); intro _ _ _ _ _ _ _ l9 _; (try k_lt l9)))
  (k_with "subscriptTail" => (k_here; (with_reducible show wpAny _ _ (subscriptTail _ _ (Value.ref _) (Value.int 0 _)) _ _ _); k_dflt (refine' tup_item0 ?tzD810 ?_ (by with_unfolding_all rfl) (by intro _; with_unfolding_all rfl); (case tzD810 => ktr_rel); k_whole)))
  (k_with "subscriptTail" => (k_here; (with_reducible show wpAny _ _ (subscriptTail _ _ (Value.ref _) (Value.int 1 _)) _ _ _); k_dflt (refine' tup_item1 ?tzD811 ?_ (by with_unfolding_all rfl) (by intro _; with_unfolding_all rfl); (case tzD811 => ktr_rel); k_whole)))
  (k_with "call builtin:list.append" => (k_here; (with_reducible show wpAny _ _ (call (Value.builtin _) [Value.ref _, _]) _ _ _); k_dflt (refine' append_K ?k1zD812 ?k2zD812 ?k3zD812 ?_ ?zzD812; (case k1zD812 => k_asm); (case k2zD812 => k_asm); (case k3zD812 => k_upd); (case zzD812 => ktr_room); k_whole); intro _ _ _; (try k_sweep)))
  (k_with "exec If" => (k_here; (with_reducible show wpAny _ _ (exec (Stmt.If (PySem.Expr.Compare (PySem.Expr.Name _ _) [CmpOp.Eq] [PySem.Expr.Constant (Const.str _) _ _] _) _ _ _) _) _ _ _); k_dflt (first | (refine' if_eqF ?FzD813 ?vzD813 ?ezD813 ?_ ?azD813 ?bzD813 ?dzD813; (case FzD813 => k_asm); (case azD813 => exact rfl); (case bzD813 => exact rfl); (case dzD813 => decide); (case vzD813 => first | exact rfl | assumption); (case ezD813 => first | with_reducible assumption | decide); k_whole) | (refine' if_eqT ?FzD813 ?vzD813 ?ezD813 ?_ ?azD813 ?bzD813 ?dzD813; (case FzD813 => k_asm); (case azD813 => exact rfl); (case bzD813 => exact rfl); (case dzD813 => decide); (case vzD813 => first | exact rfl | assumption); (case ezD813 => first | with_reducible rfl | with_reducible assumption); k_whole))))
  (k_with "exec If" => (k_here; (with_reducible show wpAny _ _ (exec (Stmt.If (PySem.Expr.Compare (PySem.Expr.Name _ _) [CmpOp.NotEq] [PySem.Expr.Constant (Const.str _) _ _] _) _ _ _) _) _ _ _); k_dflt (first | (refine' if_neT ?FzD814 ?vzD814 ?ezD814 ?_ ?azD814 ?bzD814 ?dzD814; (case FzD814 => k_asm); (case azD814 => exact rfl); (case bzD814 => exact rfl); (case dzD814 => decide); (case vzD814 => first | exact rfl | assumption); (case ezD814 => first | with_reducible assumption | decide); k_whole) | (refine' if_neF ?FzD814 ?vzD814 ?ezD814 ?_ ?azD814 ?bzD814 ?dzD814; (case FzD814 => k_asm); (case azD814 => exact rfl); (case bzD814 => exact rfl); (case dzD814 => decide); (case vzD814 => first | exact rfl | assumption); (case ezD814 => first | with_reducible rfl | with_reducible assumption); k_whole))))
  (k_with "exec If" => (k_here; (with_reducible show wpAny _ _ (exec (Stmt.If (PySem.Expr.Compare (PySem.Expr.Name _ _) [CmpOp.In] [PySem.Expr.Tuple _ _ _] _) _ _ _) _) _ _ _); k_dflt (first | (refine' if_inT ?FzD815 ?NzD815 ?vzD815 ?lzD815 ?zzD815 ?ezD815 ?_ ?azD815 ?bzD815 ?dzD815; (case FzD815 => k_asm); (case NzD815 => k_asm); (case lzD815 => repeat constructor); (case zzD815 => decide); (case azD815 => exact rfl); (case bzD815 => exact rfl); (case dzD815 => decide); (case vzD815 => first | exact rfl | assumption); (case ezD815 => first | decide | with_reducible assumption); k_whole; intro h' tk' F' N'; (try k_sweep)) | (refine' if_inF ?FzD815 ?NzD815 ?vzD815 ?lzD815 ?zzD815 ?ezD815 ?_ ?azD815 ?bzD815 ?dzD815; (case FzD815 => k_asm); (case NzD815 => k_asm); (case lzD815 => repeat constructor); (case zzD815 => decide); (case azD815 => exact rfl); (case bzD815 => exact rfl); (case dzD815 => decide); (case vzD815 => first | exact rfl | assumption); (case ezD815 => first | with_reducible assumption | decide | (simp only [List.mem_cons, List.not_mem_nil, or_false, not_or]; refine ⟨?_, ?_⟩ <;> with_reducible assumption) | (simp only [List.mem_cons, List.not_mem_nil, or_false, not_or]; refine ⟨?_, ?_, ?_⟩ <;> with_reducible assumption)); k_whole; intro _ _ _ _; (try k_sweep)))))
  (k_with "compareOp Eq ref ref" => (k_here; (with_reducible show wpAny _ _ (compareOp CmpOp.Eq (Value.ref _) (Value.ref _)) _ _ _); k_dflt (first | refine eq_nilT (by is_list) (by is_list) (by units_room) ?_ | refine eq_nilF (vs := _) (v := _) (by is_list) (by is_list) (by units_room) ?_)))
  (k_with "call builtin:list.pop" => (k_here; (with_reducible show wpAny _ _ (call (Value.builtin _) [Value.ref _]) _ _ _); k_dflt (refine' lpop_K ?FzD817 ?NzD817 ?UzD817 ?zzD817 ?_; (case FzD817 => k_asm); (case NzD817 => k_asm); (case UzD817 => k_upd); (case zzD817 => assumption)); (intro _ _ N'; (try dsimp only [List.nil_append, List.cons_append] at N'))))
  (k_with "m k_lt" => (intro hlt9; replace hlt9 := allLt_of hlt9; dsimp only [AllLt] at hlt9; revert hlt9))
  (k_with "m k_ne" => ((refine neN ?_; (try dsimp only); first | (with_reducible assumption) | (with_reducible exact Ne.symm (by assumption)) | omega)))
  (k_with "m k_inst" => (exact inst_of (by with_reducible assumption) (by with_reducible assumption) (by with_reducible assumption)))
  (k_with "m k_room" => (((try simp only [depth_under_make, depth_under_kw, depth_in1, depth_deeper, depth_caller]); (try dsimp only [arT]); omega)))
  (k_with "m ktr_unf" => (first | exact News.get (by k_asm) (by k_mem) | exact get1 (by assumption) (by assumption) | exact get2 (by assumption) (by assumption) (by assumption) | exact get3 (by assumption) (by assumption) (by assumption) (by assumption)))
  (k_with "m ktr_units" => ((rw [sizeLine_eq]; first | omega | (refine Nat.le_trans (len_without (by assumption)) ?_; decide))))
  (k_with "m ktr_rel" => (first | exact Fr.tup (by assumption) (by assumption) | exact tup2 (by assumption) (by assumption) (by assumption) | exact tup3 (by assumption) (by assumption) (by assumption) (by assumption) | exact News.isTup (by k_asm) (by k_mem)))
  (k_with "m k_put" => (first | exact put_address | exact put_cfa | exact put_rules | exact put_first))
  (k_with "m k_handed" => (assumption))
  (k_with "m ktr_room" => ((rw [sizeLine_eq]; (try simp only [List.size_toArray, List.length_append, List.length_cons, List.length_nil]); omega)))
  (k_with "m units_room" => (((try simp only [units_in1, units_deeper, Around.mark_units, units_caller]); (try dsimp only [arT]); (have hcL9 := cLine_is); (try simp only [cLine] at *); omega)))
  trivial
local macro_rules | `(tactic| units_room) => `(tactic| k_extra "m units_room")
theorem nodup_back {x dx rd kd wd d : Addr} {ds1 ds2 : List Addr} (h : (x :: dx :: rd :: kd :: wd :: (ds1 ++ d :: ds2)).Nodup) : (x :: dx :: d :: kd :: wd :: (ds1 ++ ds2)).Nodup := by
  have p : (x :: dx :: rd :: kd :: wd :: (ds1 ++ d :: ds2)).Perm (x :: dx :: rd :: kd :: wd :: d :: (ds1 ++ ds2)) := .cons _ (.cons _ (.cons _ (.cons _ (.cons _ List.perm_middle))))
  have q := p.nodup_iff.mp h
  simp only [List.nodup_cons, List.mem_cons, not_or] at q ⊢
  refine letter fun Qg hg => ?_
  obtain ⟨⟨a1, a2, a3, a4, a5, a6⟩, ⟨b1, b2, b3, b4, b5⟩, ⟨c1, c2, c3, c4⟩, ⟨d1, d2, d3⟩, ⟨e1, e2⟩, f1, g⟩ := q
  refine hg ?_
  clear hg
  exact ⟨⟨a1, a5, a3, a4, a6⟩, ⟨b4, b2, b3, b5⟩, ⟨fun e => d2 e.symm, fun e => e1 e.symm, f1⟩, ⟨d1, d3⟩, e2, g⟩
theorem kept_cases {w : World} {Z : List Addr} {h hid : Heap} {vs : List Value} {ds : List Addr} {l : List (Cfa × Rules)} (x : KeptAll w Z h hid vs ds l) :
    (l = [] ∧ vs = []) ∨ ∃ l' c f, l = l' ++ [(c, f)] ∧ KeptLast w Z h hid vs ds l' c f := by
  rcases List.eq_nil_or_concat l with rfl | ⟨l', p, rfl⟩
  · exact .inl ⟨rfl, List.eq_nil_of_length_eq_zero x.lens.1⟩
  · obtain ⟨c, f⟩ := p
    rw [List.concat_eq_append] at x
    exact .inr ⟨l', c, f, by rw [List.concat_eq_append], x.snoc' _ _ _ rfl⟩

set_option maxHeartbeats 16000000 in
theorem do_back {w : World} {Z : List Addr} {loose : List Str} {mean : ExcName → Option Value} {mg mb : Str → Option Value} {A₀ : Around} {dp un : Nat} {gd : Option (List Code)} {env : Env} {outer : List Env} {base h₀ : Heap} {L : Addr} {m : Str → Option Value} {s : Shared} {Q E : Value → Shared → Prop} {x dx rd fd kd wd b : Addr} {kds : List Addr} {st : RS} {tn : Tok}
    (B : Below A₀ base outer h₀) (F : Fr h₀ L s.heap m) (X : (hd.heap_1 w.params).In h₀) (T : Top topProg loose mean mg mb h₀)
    (hf : env.frame = some L) (hk : env.scope.kind = .function) (hroom : dp + 9 < recursionLimit) (hun : un + 100 < cLine) (H : DoHyp w Z h₀ L s.heap x dx rd fd kd wd kds st b (.back))
    (hq : DoPost w Z s x dx rd fd kd wd kds st (.back) Q) (hE : DoFault s x dx rd kd wd (env :: outer) st (.back) E) :
    wpAny (model PySem.Challenge.rw_on0310_01.row.prog w) (arT dp un gd env outer) (call (.ref 116) [.ref x, .str (Op.name (.back)) tn, .ref b]) Q E s := by
  revert X; k_fill; intro X
  simp only [Op.name]
  refine letter fun Qg hg => ?_
  obtain ⟨S, fresh, ⟨vs, nb, hb, hi⟩, ok, few⟩ := H
  refine hg ?_
  clear hg
  refine letter fun Qg hg => ?_
  obtain ⟨obj, ⟨q, n, t, cv, hdx, hcv⟩, ⟨ro, rkvs, hro, hlo, hrd, hrb⟩, hfst, ⟨kvs, kn, hkd, hka⟩, ⟨rvs, rn, hwd, hra⟩, ap, hz⟩ := S
  refine hg ?_
  clear hg
  have N := do_led obj fresh hdx hro hkd hwd
  refine wpAny_call ?_
  k_dflt (refine' enter (binds := [(Str.ofString "self", .ref x), (Str.ofString "name", .str (Str.ofString "restore_state") tn), (Str.ofString "args", .ref b)]) B F X T N rfl hf hk ?k6 ?k7 ?k8 ?k9 ?kB ?_ ?c2 ?c3 ?c4 ?c5; (case k6 => k_is); (case k7 => k_is); (case k8 => show dp < _; omega); (case k9 => exact BindsTo.of_eq rfl); (case c5 => decide); (case kB => exact locs rfl); (case c2 => exact rfl); (case c3 => exact rfl); (case c4 => exact rfl); k_whole; intro g L' h' hg hk₁ hL' F' N' B' X' T'; (try dsimp only); (try k_fold))

  have hg₁ : ∀ b o, b ∉ [x, dx, rd, kd, wd] → s.heap.get? b = some o → g.get? b = some o := hg
  clear hg hk₁
  have up := hid_into (kds := kds) hg₁
  dsimp only [selfD, ent] at N'
  refine letter fun Qg hg => ?_
  obtain ⟨ne1, ne2, ne3, ne4, ne5, ne6, ne7, ne8, ne9, neA, nek⟩ := apart_ne ap
  refine hg ?_
  clear hg
  have nek' := nek.2
  have hbT := isTup_of (up _ _ hb)
  simp only [Op.args] at hi
  obtain rfl := ints0 hi
  have hlen : rkvs.length ≤ 4 := few_keys (isDict_nodup hrd) hrb.keys
  rcases kept_cases hka with ⟨hk0, rfl⟩ | ⟨l, c, f, hk0, vs', ds1, ds2, a, d, cn, cv', o, kvs', rfl, rfl, hdZ, hka', ha, hcv', hd, hdlo, hdd, hdb⟩
  · all_goals ((try k_extra "m letter"); w_strict k_steps)
    · exact hE _ _ _ (by simp only [RS.step, hk0]; rfl) (by rename FaultOut _ _ _ _ _ => hR9; exact hR9.mono (fun b o e hb => ⟨hg₁ b o hb e, List.not_mem_nil⟩))
  · have hkT := isTup_of (up _ _ ha)
    have hcvh' : handedIn cv' = true := hcv'.handed
    have hkl : (vs' ++ [Value.ref a]).length ≤ sizeLine := by
      rw [hka.lens.1, sizeLine_eq]; exact Nat.le_trans (Nat.le_of_lt few.1) (by decide)
    all_goals ((try k_extra "m letter"); w_strict k_steps)
    (try k_unfold)
    (try dsimp only)
    (with_reducible rename Fr _ _ _ _ => kF)
    (with_reducible rename News _ _ _ _ => kN)
    have hdm : d ∈ ds1 ++ d :: ds2 := by simp
    have sub : ∀ z ∈ ds1 ++ ds2, z ∈ ds1 ++ d :: ds2 := fun z hz => by
      rcases List.mem_append.mp hz with h | h
      · exact List.mem_append_left _ h
      · exact List.mem_append_right _ (List.mem_cons_of_mem _ h)
    have up' := up_of (kds := ds1 ++ d :: ds2) (own' := x :: dx :: d :: kd :: wd :: (ds1 ++ ds2)) hg₁ kF (fun a ha => by
      simp only [List.mem_cons, List.mem_append] at ha ⊢
      rcases ha with r | r | r | r | r | r | r <;> simp [r])
    have hdo : d ∉ [x, dx, rd, kd, wd] := by
      refine letter fun Qg hg => ?_
      obtain ⟨a1, a2, a3, a4, a5⟩ := nek' d hdm
      refine hg ?_
      clear hg
      simp [a1, a2, a3, a4, a5]
    refine hq { st with kept := l, cfa := c, rules := f } _ _ d (ds1 ++ ds2) ?_ ?_ (kept_of hg₁ kF) ?_
    · simp only [RS.step, hk0, List.getLast?_concat, List.dropLast_concat]
    · refine ⟨(kN (x, _) (by k_mem)).1, ⟨q, n, _, _, (kN (dx, _) (by k_mem)).1, hcv'.keeps up'⟩, ⟨o, kvs', kF.keep _ _ (hg₁ d o hdo hd), hdlo, hdd, hdb.keeps up'⟩, hfst.keeps up', ⟨vs', kn + 1, (kN (kd, _) (by k_mem)).1, hka'.imp up' (fun e he => kds_kept hg₁ kF nek' e (sub e he))⟩, ⟨rvs, rn, (kN (wd, _) (by k_mem)).1, hra.imp (fun _ _ r => r.keeps up')⟩, ?_, fun z hzz => ?_⟩
      · exact nodup_back ap
      · rcases List.mem_append.mp (hz z hzz) with h | h
        · exact List.mem_append_left _ h
        · rcases List.mem_cons.mp h with rfl | h
          · exact absurd hzz hdZ
          · exact List.mem_append_right _ h
    · intro a ha
      refine .inl (List.mem_cons_of_mem _ ?_)
      rcases List.mem_cons.mp ha with r | r
      · exact r ▸ hdm
      · exact sub a r
section
variable {prog : Program} {w : World} {A : Around} {E : Value → Shared → Prop} {s : Shared} {h₀ : Heap} {L a : Addr} {m : Str → Option Value} {cn : Str} {cs : Scope} {ccd : Value} {cl : List (Str × Addr)}
  {x nm b b2 : Str} {t : Tok} {px pk pc px2 pk2 pc2 pb pos : Pos} {k k2 : Nat} {body orelse : List Stmt}
/-- a name asked for two words -/
theorem if_orB {Q : Flow → Shared → Prop} (F : Fr h₀ L s.heap m) (hv : m x = some (.str nm t)) (h1 : ∀ tk, (nm = b ∨ nm = b2) → Held (wpAny (model prog w) A (execs body (envX cn cs L a ccd cl)) Q E { s with toks := tk })) (h2 : ∀ tk, ¬(nm = b ∨ nm = b2) → wpAny (model prog w) A (execs orelse (envX cn cs L a ccd cl)) Q E { s with toks := tk })
    (hk : cs.kind = .function) (hx : (envX cn cs L a ccd cl).kindOf x = some .local) (_ : True = True) (hd : (x == ("__debug__" : Str)) = false) :
    wpAny (model prog w) A (exec (.If (.BoolOp .Or [.Compare (.Name x px) [.Eq] [.Constant (.str b) k pk] pc, .Compare (.Name x px2) [.Eq] [.Constant (.str b2) k2 pk2] pc2] pb) body orelse pos) (envX cn cs L a ccd cl)) Q E s := by
  refine wpAny_If (isTrue_or (test_eq F hv ?_ hk hx hd))
  by_cases e : nm = b
  · rw [show (nm == b) = true from by simpa using e, if_pos rfl, if_pos rfl]
    exact h1 _ (.inl e)
  · rw [show (nm == b) = false from by simpa using e, if_neg (by decide)]
    refine isTrue_or (test_eq (s := { s with toks := s.toks + 1 }) F hv ?_ hk hx hd)
    by_cases e2 : nm = b2
    · rw [show (nm == b2) = true from by simpa using e2, if_pos rfl, if_pos rfl]
      exact h1 _ (.inr e2)
    · rw [show (nm == b2) = false from by simpa using e2, if_neg (by decide)]
      refine isTrue_or_nil ?_
      rw [if_neg (by decide)]
      exact h2 _ (fun q => q.elim e e2)
end

/-- an operation that tells a register -/
noncomputable def Op.isRule : Op → Prop
  | .restore _ | .undef _ | .same _ | .offset _ _ | .offsetX _ _ | .valOff _ _ | .reg _ _ => True
  | _ => False
theorem rule_names {op : Op} (h : op.isRule) : op.name ≠ Str.ofString "advance_loc" ∧ op.name ≠ Str.ofString "set_loc" ∧ op.name ≠ Str.ofString "remember_state" ∧ op.name ≠ Str.ofString "restore_state" ∧ op.name ∉ [Str.ofString "def_cfa", Str.ofString "def_cfa_register", Str.ofString "def_cfa_offset"] ∧ op.name ≠ Str.ofString "nop" := by
  cases op <;> first | exact (h : False).elim | (simp only [Op.name]; decide)
theorem rule_parts {op : Op} (h : op.isRule) (ok : op.ok) : ∃ m as, op.args = m :: as ∧ 0 ≤ m ∧ m < 4 := by
  cases op <;> first | exact (h : False).elim | exact ⟨_, _, rfl, ok⟩
section
variable {op : Op} {m : Int} {as : List Int} {st : RS}
theorem step_restore (e : op.name = Str.ofString "restore") (ha : op.args = m :: as) : st.step op = some { st with rules := fun k => if k = m then st.first m else st.rules k } := by
  cases op <;> first | (cases ha; rfl) | exact absurd e (by simp only [Op.name]; decide)
theorem step_off (e : op.name = Str.ofString "offset" ∨ op.name = Str.ofString "offset_extended") (ha : op.args = m :: as) : ∃ c, as = [c] ∧ st.step op = some { st with rules := put st.rules m (Str.ofString "offset", c) } := by
  cases op <;> first | (cases ha; exact ⟨_, rfl, rfl⟩) | exact absurd e (by simp only [Op.name]; decide)
theorem step_nam (e : op.name = Str.ofString "val_offset" ∨ op.name = Str.ofString "register") (ha : op.args = m :: as) : ∃ c, as = [c] ∧ st.step op = some { st with rules := put st.rules m (op.name, c) } := by
  cases op <;> first | (cases ha; exact ⟨_, rfl, rfl⟩) | exact absurd e (by simp only [Op.name]; decide)
theorem step_same (e : op.name = Str.ofString "same_value") (ha : op.args = m :: as) : st.step op = some { st with rules := put st.rules m (Str.ofString "same", 0) } := by
  cases op <;> first | (cases ha; rfl) | exact absurd e (by simp only [Op.name]; decide)
theorem step_undef (h : op.isRule) (e1 : op.name ≠ Str.ofString "restore") (e2 : ¬(op.name = Str.ofString "offset" ∨ op.name = Str.ofString "offset_extended")) (e3 : ¬(op.name = Str.ofString "val_offset" ∨ op.name = Str.ofString "register")) (e4 : op.name ≠ Str.ofString "same_value") (ha : op.args = m :: as) :
    st.step op = some { st with rules := put st.rules m (Str.ofString "undefined", 0) } := by
  cases op <;> first | exact (h : False).elim | exact absurd rfl e1 | exact absurd (.inl rfl) e2 | exact absurd (.inr rfl) e2 | exact absurd (.inl rfl) e3 | exact absurd (.inr rfl) e3 | exact absurd rfl e4 | (cases ha; rfl)
end
theorem ints_cons {vs : List Value} {a : Int} {as : List Int} (h : IntsAre vs (a :: as)) : ∃ t r, vs = .int a t :: r ∧ IntsAre r as := by
  cases h with
  | cons _ t r => exact ⟨t, _, rfl, r⟩
theorem lines_N1 : True := by
  k_with_none
  (k_with "execs cons" => (k_here; first | ((fail_if_success (fail_if_success k_gentoks)); (refine tok_letter ?_); intro tk) | ((fail_if_success (with_reducible show wpAny _ _ _ (Behind _) _ _)); (with_reducible refine Q_letter ?_); intro Q9 hQ9) | (with_reducible refine execs_one ?_) | (with_reducible refine execs_cons_L ?_; intro Q9 hQ9)))
  (k_with "Behind" => ((rename (∀ f s', _ → Behind _ f s') => hB9); first | ((with_reducible refine hB9 _ _ ?_); (try dsimp only)) | (clear hB9; k_extra "Behind")))
  (k_with "BehindE" => ((rename (∀ e s', _ → BehindE _ e s') => hB9); first | ((with_reducible refine hB9 _ _ ?_); (try dsimp only)) | (clear hB9; k_extra "BehindE")))
  (k_with "m letter" => (first | (with_reducible show wpAny _ _ _ (Behind _) (BehindE _) _) | (with_reducible show wpAny _ _ _ _ (BehindE _) _; refine Q_letter ?_; intro Q9 hQ9) | (with_reducible refine QE_letter (by passes_own) ?_; intro Q9 E9 hQ9 hE9 hP9) | (refine Q_letter ?_; intro Q9 hQ9)))
  (k_with "call ref" => (k_here; (with_reducible show wpAny _ _ (call (Value.ref 44) [Value.str _ _]) _ _ _); k_dflt (refine' fault_call_K ?BzN11 ?FzN11 ?XzN11 ?TzN11 ?NzN11 ?AzN11 ?fzN11 ?kzN11 ?rzN11 ?_; (case BzN11 => k_asm); (case FzN11 => k_asm); (case XzN11 => k_asm); (case TzN11 => k_asm); (case NzN11 => k_asm); (case AzN11 => exact rfl); (case fzN11 => exact rfl); (case kzN11 => exact rfl); (case rzN11 => k_room); k_whole); intro _ _ _ _ _ _; (try dsimp only)))
  (k_with "exec Raise some none" => (k_here; k_dflt (refine raise44_exec rfl ?_)))
  (k_with "RaisableF" => ((rename MadeFault _ _ _ => hM9); obtain ⟨t9, dd9, he9⟩ := MadeFault.there hM9; refine ⟨_, _, _, rfl, faultCls (Frag.In.keeps (by k_asm) (Fr.keep (by k_asm))), he9, ?_⟩; clear he9))
  (k_with "leaving ref" => (k_here; (with_reducible show wpAny _ (Around.deeper _ (envOf _ _ _ _ _)) _ _ _ _); first | ((rename FaultOut _ _ _ _ _ => hR9); refine leave_faultOn (by assumption) (by assumption) hR9 ?_; intro h9 R9) | ((rename MadeFault _ _ _ => hM9); refine leave_fault (by assumption) hM9 (by assumption) ?_ rfl; intro _ _)))
  (k_with "setItem ref int" => (k_here; (with_reducible show wpAny _ _ (setItem (Value.ref _) (Value.int _ _) _) _ _ _); k_dflt (refine' rset_K ?FzN15 ?NzN15 ?UzN15 ?dzN15 ?zzN15 ?_; (case FzN15 => k_asm); (case NzN15 => k_asm); (case UzN15 => k_updF); (case dzN15 => assumption); (case zzN15 => ktr_units); k_whole); intro _ _ _ _ _))
  (k_with "call builtin:dict.pop" => (k_here; k_dflt (refine' rpop_any ?FzN16 ?NzN16 ?UzN16 ?lzN16 ?dzN16 ?zzN16 ?_; (case FzN16 => k_asm); (case NzN16 => k_asm); (case UzN16 => k_updF); (case lzN16 => assumption); (case dzN16 => assumption); (case zzN16 => ktr_units); k_whole; intro _ _ _ _ _ _)))
  (k_with "compareOp In int ref" => (k_here; k_dflt (first | (refine' rin_none ?ezN17 ?lzN17 ?dzN17 ?vzN17 ?_; (case ezN17 => ktr_unf); (case lzN17 => assumption); (case dzN17 => assumption); (case vzN17 => assumption); k_whole) | (refine' rin_some ?ezN17 ?lzN17 ?dzN17 ?vzN17 ?_; (case ezN17 => ktr_unf); (case lzN17 => assumption); (case dzN17 => assumption); (case vzN17 => assumption); k_whole))))
  (k_with "subscriptTail" => (k_here; (with_reducible show wpAny _ _ (subscriptTail _ _ (Value.ref _) (Value.int _ _)) _ _ _); k_dflt (refine' ritem_K ?ezN18 ?dzN18 ?vzN18 ?_ (by with_unfolding_all rfl) (by intro _; with_unfolding_all rfl); (case ezN18 => ktr_unf); (case dzN18 => assumption); (case vzN18 => assumption); k_whole)))
  (k_with "call type:dict" => (k_here; (with_reducible show wpAny _ _ (call (Value.type "dict") [Value.ref _]) _ _ _); k_dflt (refine' rcopy_K ?FzN19 ?NzN19 ?bzN19 ?ezN19 ?lzN19 ?dzN19 ?zzN19 ?_; (case FzN19 => k_asm); (case NzN19 => k_asm); (case bzN19 => exact Top.nolimit (by assumption)); (case ezN19 => ktr_unf); (case lzN19 => assumption); (case dzN19 => assumption); (case zzN19 => ktr_units); k_whole); intro _ _ _ _ _ _ _ l9 _; (try k_lt l9)))
  (k_with "subscriptTail" => (k_here; (with_reducible show wpAny _ _ (subscriptTail _ _ (Value.ref _) (Value.int 0 _)) _ _ _); k_dflt (refine' tup_item0 ?tzN110 ?_ (by with_unfolding_all rfl) (by intro _; with_unfolding_all rfl); (case tzN110 => ktr_rel); k_whole)))
  (k_with "subscriptTail" => (k_here; (with_reducible show wpAny _ _ (subscriptTail _ _ (Value.ref _) (Value.int 1 _)) _ _ _); k_dflt (refine' tup_item1 ?tzN111 ?_ (by with_unfolding_all rfl) (by intro _; with_unfolding_all rfl); (case tzN111 => ktr_rel); k_whole)))
  (k_with "call builtin:list.append" => (k_here; (with_reducible show wpAny _ _ (call (Value.builtin _) [Value.ref _, _]) _ _ _); k_dflt (refine' append_K ?k1zN112 ?k2zN112 ?k3zN112 ?_ ?zzN112; (case k1zN112 => k_asm); (case k2zN112 => k_asm); (case k3zN112 => k_upd); (case zzN112 => ktr_room); k_whole); intro _ _ _; (try k_sweep)))
  (k_with "exec If" => (k_here; (with_reducible show wpAny _ _ (exec (Stmt.If (PySem.Expr.Compare (PySem.Expr.Name _ _) [CmpOp.Eq] [PySem.Expr.Constant (Const.str _) _ _] _) _ _ _) _) _ _ _); k_dflt (first | (refine' if_eqF ?FzN1b2 ?vzN1b2 ?ezN1b2 ?_ ?azN1b2 ?bzN1b2 ?dzN1b2; (case FzN1b2 => k_asm); (case azN1b2 => exact rfl); (case bzN1b2 => exact rfl); (case dzN1b2 => decide); (case vzN1b2 => first | exact rfl | assumption); (case ezN1b2 => first | with_reducible assumption | decide); k_whole) | (refine' if_eqT ?FzN1b2 ?vzN1b2 ?ezN1b2 ?_ ?azN1b2 ?bzN1b2 ?dzN1b2; (case FzN1b2 => k_asm); (case azN1b2 => exact rfl); (case bzN1b2 => exact rfl); (case dzN1b2 => decide); (case vzN1b2 => first | exact rfl | assumption); (case ezN1b2 => first | with_reducible rfl | with_reducible assumption); k_whole) | (refine' if_eqB ?FzN1b2 ?vzN1b2 ?_ ?_ ?azN1b2 ?bzN1b2 ?dzN1b2; (case FzN1b2 => k_asm); (case azN1b2 => exact rfl); (case bzN1b2 => exact rfl); (case dzN1b2 => decide); (case vzN1b2 => first | exact rfl | assumption); (all_goals k_whole)); (all_goals intro _))))
  (k_with "exec If" => (k_here; (with_reducible show wpAny _ _ (exec (Stmt.If (PySem.Expr.Compare (PySem.Expr.Name _ _) [CmpOp.NotEq] [PySem.Expr.Constant (Const.str _) _ _] _) _ _ _) _) _ _ _); k_dflt (first | (refine' if_neT ?FzN114 ?vzN114 ?ezN114 ?_ ?azN114 ?bzN114 ?dzN114; (case FzN114 => k_asm); (case azN114 => exact rfl); (case bzN114 => exact rfl); (case dzN114 => decide); (case vzN114 => first | exact rfl | assumption); (case ezN114 => first | with_reducible assumption | decide); k_whole) | (refine' if_neF ?FzN114 ?vzN114 ?ezN114 ?_ ?azN114 ?bzN114 ?dzN114; (case FzN114 => k_asm); (case azN114 => exact rfl); (case bzN114 => exact rfl); (case dzN114 => decide); (case vzN114 => first | exact rfl | assumption); (case ezN114 => first | with_reducible rfl | with_reducible assumption); k_whole))))
  (k_with "exec If" => (k_here; (with_reducible show wpAny _ _ (exec (Stmt.If (PySem.Expr.Compare (PySem.Expr.Name _ _) [CmpOp.In] [PySem.Expr.Tuple _ _ _] _) _ _ _) _) _ _ _); k_dflt (first | (refine' if_inT ?FzN115 ?NzN115 ?vzN115 ?lzN115 ?zzN115 ?ezN115 ?_ ?azN115 ?bzN115 ?dzN115; (case FzN115 => k_asm); (case NzN115 => k_asm); (case lzN115 => repeat constructor); (case zzN115 => decide); (case azN115 => exact rfl); (case bzN115 => exact rfl); (case dzN115 => decide); (case vzN115 => first | exact rfl | assumption); (case ezN115 => first | decide | with_reducible assumption); k_whole; intro h' tk' F' N'; (try k_sweep)) | (refine' if_inF ?FzN115 ?NzN115 ?vzN115 ?lzN115 ?zzN115 ?ezN115 ?_ ?azN115 ?bzN115 ?dzN115; (case FzN115 => k_asm); (case NzN115 => k_asm); (case lzN115 => repeat constructor); (case zzN115 => decide); (case azN115 => exact rfl); (case bzN115 => exact rfl); (case dzN115 => decide); (case vzN115 => first | exact rfl | assumption); (case ezN115 => first | with_reducible assumption | decide | (simp only [List.mem_cons, List.not_mem_nil, or_false, not_or]; refine ⟨?_, ?_⟩ <;> with_reducible assumption) | (simp only [List.mem_cons, List.not_mem_nil, or_false, not_or]; refine ⟨?_, ?_, ?_⟩ <;> with_reducible assumption)); k_whole; intro _ _ _ _; (try k_sweep)))))
  (k_with "exec If" => (k_here; (with_reducible show wpAny _ _ (exec (Stmt.If (PySem.Expr.BoolOp BoolOp.Or [PySem.Expr.Compare _ _ _ _, PySem.Expr.Compare _ _ _ _] _) _ _ _) _) _ _ _); k_dflt (refine' if_orB ?FzN1c ?vzN1c ?_ ?_ ?azN1c ?bzN1c ?czN1c ?dzN1c; (case FzN1c => k_asm); (case azN1c => exact rfl); (case bzN1c => exact rfl); (case czN1c => exact rfl); (case dzN1c => decide); (case vzN1c => first | exact rfl | assumption)); (all_goals intro _ _); (try (refine Held.out ?_))))
  (k_with "m k_lt" => (intro hlt9; replace hlt9 := allLt_of hlt9; dsimp only [AllLt] at hlt9; revert hlt9))
  (k_with "m k_ne" => ((refine neN ?_; (try dsimp only); first | (with_reducible assumption) | (with_reducible exact Ne.symm (by assumption)) | omega)))
  (k_with "m k_inst" => (exact inst_of (by with_reducible assumption) (by with_reducible assumption) (by with_reducible assumption)))
  (k_with "m k_room" => (((try simp only [depth_under_make, depth_under_kw, depth_in1, depth_deeper, depth_caller]); (try dsimp only [arT]); omega)))
  (k_with "m ktr_unf" => (first | exact News.get (by k_asm) (by k_mem) | exact get1 (by assumption) (by assumption) | exact get2 (by assumption) (by assumption) (by assumption) | exact get3 (by assumption) (by assumption) (by assumption) (by assumption)))
  (k_with "m ktr_units" => ((rw [sizeLine_eq]; first | omega | (refine Nat.le_trans (len_without (by assumption)) ?_; decide))))
  (k_with "m ktr_rel" => (first | exact Fr.tup (by assumption) (by assumption) | exact tup2 (by assumption) (by assumption) (by assumption) | exact tup3 (by assumption) (by assumption) (by assumption) (by assumption) | exact News.isTup (by k_asm) (by k_mem)))
  (k_with "m k_put" => (first | exact put_address | exact put_cfa | exact put_rules | exact put_first))
  (k_with "m k_handed" => (assumption))
  (k_with "m ktr_room" => ((rw [sizeLine_eq]; (try simp only [List.size_toArray, List.length_append, List.length_cons, List.length_nil]); omega)))
  trivial
section
variable {w : World} {Z : List Addr} {s : Shared} {x dx rd fd kd wd : Addr} {kds : List Addr} {st : RS} {Q : Value → Shared → Prop} {g h' : Heap} {L' : Addr} {m' : Str → Option Value} {q : Nat → Int × Tok} {n kn rn tk : Nat} {t t' : Tok} {cv : Value}
  {ro o' : Obj} {rkvs : List (Int × Value)} {kvs rvs : List Value} {T D : Addr}
theorem end_put {op : Op} {mk : Int} {r : Rule} {kvs2 : List (Int × Value)} (hs : st.step op = some { st with rules := put st.rules mk r }) (hq : DoPost w Z s x dx rd fd kd wd kds st op Q)
    (hg : ∀ b o, b ∉ [x, dx, rd, kd, wd] → s.heap.get? b = some o → g.get? b = some o) (kF : Fr g L' h' m')
    (hcv : CfaIn (hideAll s.heap (x :: dx :: rd :: kd :: wd :: kds)) cv st.cfa) (hlo : (rd == sysModules) = false)
    (hfst : RulesAt w (hideAll s.heap (x :: dx :: rd :: kd :: wd :: kds)) fd st.first) (hka : KeptAll w Z s.heap (hideAll s.heap (x :: dx :: rd :: kd :: wd :: kds)) kvs kds st.kept) (hra : All2 (RowIn w (hideAll s.heap (x :: dx :: rd :: kd :: wd :: kds))) rvs st.rows)
    (ap : (x :: dx :: rd :: kd :: wd :: kds).Nodup) (hz : ∀ z ∈ Z, z ∈ kds)
    (kX : h'.get? x = some (instObj 119 dx)) (kDx : h'.get? dx = some (selfD q n st.addr t cv rd fd kd wd)) (kR : h'.get? rd = some o') (iR : o'.IsDictOf (iK w) kvs2) (kK : h'.get? kd = some (listOf kvs.toArray kn)) (kW : h'.get? wd = some (listOf rvs.toArray rn))
    (hb : (∀ b o, (hideAll s.heap (x :: dx :: rd :: kd :: wd :: kds)).get? b = some o → (hideAll h' (x :: dx :: rd :: kd :: wd :: kds)).get? b = some o) → Bears (hideAll h' (x :: dx :: rd :: kd :: wd :: kds)) kvs2 (put st.rules mk r)) :
    Q .none { s with heap := h', toks := tk } := by
  have up' := up_of (kds := kds) (own' := x :: dx :: rd :: kd :: wd :: kds) hg kF (fun a ha => .inl ha)
  exact hq _ _ _ rd kds hs ⟨kX, ⟨q, n, t, cv, kDx, hcv.keeps up'⟩, ⟨o', kvs2, kR, hlo, iR, hb up'⟩, hfst.keeps up', ⟨kvs, kn, kK, hka.imp up' (kds_kept hg kF (apart_ne ap).2.2.2.2.2.2.2.2.2.2.2)⟩, ⟨rvs, rn, kW, hra.imp (fun _ _ r => r.keeps up')⟩, ap, hz⟩ (kept_of hg kF) (fun a ha => .inl ha)
end
set_option maxHeartbeats 16000000 in
theorem do_rule {w : World} {Z : List Addr} {loose : List Str} {mean : ExcName → Option Value} {mg mb : Str → Option Value} {A₀ : Around} {dp un : Nat} {gd : Option (List Code)} {env : Env} {outer : List Env} {base h₀ : Heap} {L : Addr} {m : Str → Option Value} {s : Shared} {Q E : Value → Shared → Prop} {x dx rd fd kd wd b : Addr} {kds : List Addr} {st : RS} {op : Op} {tn : Tok}
    (hop : op.isRule) (B : Below A₀ base outer h₀) (F : Fr h₀ L s.heap m) (X : (hd.heap_1 w.params).In h₀) (T : Top topProg loose mean mg mb h₀)
    (hf : env.frame = some L) (hk : env.scope.kind = .function) (hroom : dp + 9 < recursionLimit) (H : DoHyp w Z h₀ L s.heap x dx rd fd kd wd kds st b op)
    (hq : DoPost w Z s x dx rd fd kd wd kds st op Q) (hE : DoFault s x dx rd kd wd (env :: outer) st op E) :
    wpAny (model PySem.Challenge.rw_on0310_01.row.prog w) (arT dp un gd env outer) (call (.ref 116) [.ref x, .str op.name tn, .ref b]) Q E s := by
  revert X; k_fill; intro X
  refine letter fun Qg hg => ?_
  obtain ⟨S, fresh, ⟨vs, nb, hb, hi⟩, ok, few⟩ := H
  refine hg ?_
  clear hg
  refine letter fun Qg hg => ?_
  obtain ⟨obj, ⟨q, n, t, cv, hdx, hcv⟩, ⟨ro, rkvs, hro, hlo, hrd, hrb⟩, hfst, ⟨kvs, kn, hkd, hka⟩, ⟨rvs, rn, hwd, hra⟩, ap, hz⟩ := S
  refine hg ?_
  clear hg
  have N := do_led obj fresh hdx hro hkd hwd
  refine wpAny_call ?_
  k_dflt (refine' enter (binds := [(Str.ofString "self", .ref x), (Str.ofString "name", .str op.name tn), (Str.ofString "args", .ref b)]) B F X T N rfl hf hk ?k6 ?k7 ?k8 ?k9 ?kB ?_ ?c2 ?c3 ?c4 ?c5; (case k6 => k_is); (case k7 => k_is); (case k8 => show dp < _; omega); (case k9 => exact BindsTo.of_eq rfl); (case c5 => decide); (case kB => exact locs rfl); (case c2 => exact rfl); (case c3 => exact rfl); (case c4 => exact rfl); k_whole; intro g L' h' hg hk₁ hL' F' N' B' X' T'; (try dsimp only); (try k_fold))

  have hg₁ : ∀ b o, b ∉ [x, dx, rd, kd, wd] → s.heap.get? b = some o → g.get? b = some o := hg
  clear hg hk₁
  have up := hid_into (kds := kds) hg₁
  dsimp only [selfD, ent] at N'
  refine letter fun Qg hg => ?_
  obtain ⟨ne1, ne2, ne3, ne4, ne5, ne6, ne7, ne8, ne9, neA, nek⟩ := apart_ne ap
  refine hg ?_
  clear hg
  have nek' := nek.2
  have hbT := isTup_of (up _ _ hb)
  obtain ⟨m₁, as, ho, ok1⟩ := rule_parts hop ok
  rw [ho] at hi
  obtain ⟨t1, vr, rfl, hi2⟩ := ints_cons hi
  refine letter fun Qg hg => ?_
  obtain ⟨nn1, nn2, nn3, nn4, nn5, nn6⟩ := rule_names hop
  refine hg ?_
  clear hg
  have hlen : rkvs.length ≤ 4 := few_keys (isDict_nodup hrd) hrb.keys
  refine letter fun Qg hg => ?_
  obtain ⟨fo, fkvs, hfo, hflo, hfd, hfb⟩ := id hfst
  refine hg ?_
  clear hg
  have hfg := up _ _ hfo
  all_goals ((try k_extra "m letter"); w_strict k_steps)
  · rcases hv2 : valueAt fkvs m₁ with _ | v2
    all_goals w_strict k_steps
    · (try k_unfold)
      (try dsimp only)
      (with_reducible rename Fr _ _ _ _ => kF)
      (with_reducible rename News _ _ _ _ => kN)
      have up' := up_of (kds := kds) (own' := x :: dx :: rd :: kd :: wd :: kds) hg₁ kF (fun a ha => .inl ha)
      refine hq { st with rules := fun k => if k = m₁ then st.first m₁ else st.rules k } _ _ rd kds (step_restore (by assumption) ho) ?_ (kept_of hg₁ kF) (fun a ha => .inl ha)
      exact ⟨(kN (x, _) (by k_mem)).1, ⟨q, n, _, _, (kN (dx, _) (by k_mem)).1, hcv.keeps up'⟩, ⟨_, _, (kN (rd, _) (by k_mem)).1, hlo, by assumption, (hrb.keeps up').del.congr fun k => restored_n (hfb.dom _ hv2) k⟩, hfst.keeps up', ⟨kvs, kn, (kN (kd, _) (by k_mem)).1, hka.imp up' (kds_kept hg₁ kF nek')⟩, ⟨rvs, rn, (kN (wd, _) (by k_mem)).1, hra.imp (fun _ _ r => r.keeps up')⟩, ap, hz⟩
    · obtain ⟨r, hr1, hr2⟩ := hfb.val _ _ hv2
      (try k_unfold)
      (try dsimp only)
      (with_reducible rename Fr _ _ _ _ => kF)
      (with_reducible rename News _ _ _ _ => kN)
      have up' := up_of (kds := kds) (own' := x :: dx :: rd :: kd :: wd :: kds) hg₁ kF (fun a ha => .inl ha)
      refine hq { st with rules := fun k => if k = m₁ then st.first m₁ else st.rules k } _ _ rd kds (step_restore (by assumption) ho) ?_ (kept_of hg₁ kF) (fun a ha => .inl ha)
      exact ⟨(kN (x, _) (by k_mem)).1, ⟨q, n, _, _, (kN (dx, _) (by k_mem)).1, hcv.keeps up'⟩, ⟨_, _, (kN (rd, _) (by k_mem)).1, hlo, by assumption, ((hrb.keeps up').del.put (hr2.keeps up') ok1).congr fun k => restored_ds hr1 k⟩, hfst.keeps up', ⟨kvs, kn, (kN (kd, _) (by k_mem)).1, hka.imp up' (kds_kept hg₁ kF nek')⟩, ⟨rvs, rn, (kN (wd, _) (by k_mem)).1, hra.imp (fun _ _ r => r.keeps up')⟩, ap, hz⟩
  · unfold Held
    obtain ⟨c₁, rfl, hs⟩ := step_off (st := st) (by assumption) ho
    obtain ⟨t2, vr2, rfl, hi3⟩ := ints_cons hi2
    w_strict k_steps
    (try k_unfold)
    (try dsimp only)
    (with_reducible rename Fr _ _ _ _ => kF)
    (with_reducible rename News _ _ _ _ => kN)
    exact end_put hs hq hg₁ kF hcv hlo hfst hka hra ap hz (kN (x, _) (by k_mem)).1 (kN (dx, _) (by k_mem)).1 (kN (rd, _) (by k_mem)).1 (by assumption) (kN (kd, _) (by k_mem)).1 (kN (wd, _) (by k_mem)).1 (fun up' => (hrb.keeps up').put (RuleIn.mk (n := 0) (new_hid (kN _ (List.Mem.head _)).1 (neN (by omega)) (neN (by omega)) (neN (by omega)) (neN (by omega)) (neN (by omega)) (off_kds hka hg₁ nek' (kN _ (List.Mem.head _)).2.2))) ok1)
  · unfold Held
    obtain ⟨c₁, rfl, hs⟩ := step_nam (st := st) (by assumption) ho
    obtain ⟨t2, vr2, rfl, hi3⟩ := ints_cons hi2
    w_strict k_steps
    (try k_unfold)
    (try dsimp only)
    (with_reducible rename Fr _ _ _ _ => kF)
    (with_reducible rename News _ _ _ _ => kN)
    exact end_put hs hq hg₁ kF hcv hlo hfst hka hra ap hz (kN (x, _) (by k_mem)).1 (kN (dx, _) (by k_mem)).1 (kN (rd, _) (by k_mem)).1 (by assumption) (kN (kd, _) (by k_mem)).1 (kN (wd, _) (by k_mem)).1 (fun up' => (hrb.keeps up').put (RuleIn.mk (n := 0) (new_hid (kN _ (List.Mem.head _)).1 (neN (by omega)) (neN (by omega)) (neN (by omega)) (neN (by omega)) (neN (by omega)) (off_kds hka hg₁ nek' (kN _ (List.Mem.head _)).2.2))) ok1)
  · (try k_unfold)
    (try dsimp only)
    (with_reducible rename Fr _ _ _ _ => kF)
    (with_reducible rename News _ _ _ _ => kN)
    exact end_put (step_same (by assumption) ho) hq hg₁ kF hcv hlo hfst hka hra ap hz (kN (x, _) (by k_mem)).1 (kN (dx, _) (by k_mem)).1 (kN (rd, _) (by k_mem)).1 (by assumption) (kN (kd, _) (by k_mem)).1 (kN (wd, _) (by k_mem)).1 (fun up' => (hrb.keeps up').put (RuleIn.mk (n := 0) (new_hid (kN _ (List.Mem.head _)).1 (neN (by omega)) (neN (by omega)) (neN (by omega)) (neN (by omega)) (neN (by omega)) (off_kds hka hg₁ nek' (kN _ (List.Mem.head _)).2.2))) ok1)
  · (try k_unfold)
    (try dsimp only)
    (with_reducible rename Fr _ _ _ _ => kF)
    (with_reducible rename News _ _ _ _ => kN)
    exact end_put (step_undef hop (by assumption) (by assumption) (by assumption) (by assumption) ho) hq hg₁ kF hcv hlo hfst hka hra ap hz (kN (x, _) (by k_mem)).1 (kN (dx, _) (by k_mem)).1 (kN (rd, _) (by k_mem)).1 (by assumption) (kN (kd, _) (by k_mem)).1 (kN (wd, _) (by k_mem)).1 (fun up' => (hrb.keeps up').put (RuleIn.mk (n := 0) (new_hid (kN _ (List.Mem.head _)).1 (neN (by omega)) (neN (by omega)) (neN (by omega)) (neN (by omega)) (neN (by omega)) (off_kds hka hg₁ nek' (kN _ (List.Mem.head _)).2.2))) ok1)
theorem str_eqT {prog : Program} {w : World} {A : Around} {E : Value → Shared → Prop} {s : Shared} {x y : Str} {t u : Tok} {Q : Value → Shared → Prop} (hn : x = y) (h : Q (.bool true) s) : wpAny (model prog w) A (compareOp .Eq (.str x t) (.str y u)) Q E s := eq_str (by rw [show (x == y) = true from by simpa using hn]; exact h)
/-- an operation that tells the frame's address -/
noncomputable def Op.isCfa : Op → Prop
  | .cfa _ _ | .cfaReg _ | .cfaOff _ => True
  | _ => False
theorem cfa_names {op : Op} (h : op.isCfa) : op.name ≠ Str.ofString "advance_loc" ∧ op.name ≠ Str.ofString "set_loc" ∧ op.name ≠ Str.ofString "remember_state" ∧ op.name ≠ Str.ofString "restore_state" ∧ op.name ∈ [Str.ofString "def_cfa", Str.ofString "def_cfa_register", Str.ofString "def_cfa_offset"] := by
  cases op <;> first | exact (h : False).elim | (simp only [Op.name]; decide)
theorem cfa_parts {op : Op} (h : op.isCfa) : ∃ m as, op.args = m :: as := by
  cases op <;> first | exact (h : False).elim | exact ⟨_, _, rfl⟩
theorem cfa_step {op : Op} {m : Int} {as : List Int} {st : RS} (h : op.isCfa) (ha : op.args = m :: as) :
    (op.name = Str.ofString "def_cfa" ∧ ∃ c, as = [c] ∧ st.step op = some { st with cfa := some (m, c) }) ∨ (op.name ≠ Str.ofString "def_cfa" ∧ ((st.cfa = none ∧ st.step op = none) ∨ ∃ p, st.cfa = some p ∧ ((op.name = Str.ofString "def_cfa_register" ∧ st.step op = some { st with cfa := some (m, p.2) }) ∨ (op.name ≠ Str.ofString "def_cfa_register" ∧ st.step op = some { st with cfa := some (p.1, m) })))) := by
  cases op <;> first | exact (h : False).elim | skip
  · cases ha
    refine .inr ⟨by simp only [Op.name]; decide, ?_⟩
    cases hc : st.cfa with
    | none => exact .inl ⟨rfl, by simp only [RS.step, hc]⟩
    | some p => exact .inr ⟨p, rfl, .inl ⟨rfl, by simp only [RS.step, hc]⟩⟩
  · cases ha
    refine .inr ⟨by simp only [Op.name]; decide, ?_⟩
    cases hc : st.cfa with
    | none => exact .inl ⟨rfl, by simp only [RS.step, hc]⟩
    | some p => exact .inr ⟨p, rfl, .inr ⟨by simp only [Op.name]; decide, by simp only [RS.step, hc]⟩⟩
  · cases ha
    exact .inl ⟨rfl, _, rfl, rfl⟩
noncomputable def CfaWays (op : Op) (m : Int) (st : RS) : Prop := (st.cfa = none ∧ st.step op = none) ∨ ∃ p, st.cfa = some p ∧ ((op.name = Str.ofString "def_cfa_register" ∧ st.step op = some { st with cfa := some (m, p.2) }) ∨ (op.name ≠ Str.ofString "def_cfa_register" ∧ st.step op = some { st with cfa := some (p.1, m) }))
theorem CfaWays.fault {op : Op} {m : Int} {st : RS} (h : CfaWays op m st) (hc : st.cfa = none) : st.step op = none := by
  rcases h with ⟨_, h⟩ | ⟨p, h, _⟩
  · exact h
  · rw [hc] at h; cases h
theorem CfaWays.reg {op : Op} {m : Int} {st : RS} {p : Int × Int} (h : CfaWays op m st) (hc : st.cfa = some p) (e : (op.name == Str.ofString "def_cfa_register") = true) : st.step op = some { st with cfa := some (m, p.2) } := by
  rcases h with ⟨h, _⟩ | ⟨q, h, ⟨_, k⟩ | ⟨k, _⟩⟩
  · rw [hc] at h; cases h
  · rw [hc] at h; cases h; exact k
  · exact absurd (by simpa using e) k
theorem CfaWays.off {op : Op} {m : Int} {st : RS} {p : Int × Int} (h : CfaWays op m st) (hc : st.cfa = some p) (e : (op.name == Str.ofString "def_cfa_register") = false) : st.step op = some { st with cfa := some (p.1, m) } := by
  rcases h with ⟨h, _⟩ | ⟨q, h, ⟨k, _⟩ | ⟨_, k⟩⟩
  · rw [hc] at h; cases h
  · rw [k] at e; simp at e
  · rw [hc] at h; cases h; exact k
theorem lines_N2 : True := by
  k_with_none
  (k_with "execs cons" => (k_here; first | ((fail_if_success (fail_if_success k_gentoks)); (refine tok_letter ?_); intro tk) | ((fail_if_success (with_reducible show wpAny _ _ _ (Behind _) _ _)); (with_reducible refine Q_letter ?_); intro Q9 hQ9) | (with_reducible refine execs_one ?_) | (with_reducible refine execs_cons_L ?_; intro Q9 hQ9)))
  (k_with "Behind" => ((rename (∀ f s', _ → Behind _ f s') => hB9); first | ((with_reducible refine hB9 _ _ ?_); (try dsimp only)) | (clear hB9; k_extra "Behind")))
  (k_with "BehindE" => ((rename (∀ e s', _ → BehindE _ e s') => hB9); first | ((with_reducible refine hB9 _ _ ?_); (try dsimp only)) | (clear hB9; k_extra "BehindE")))
  (k_with "m letter" => (first | (with_reducible show wpAny _ _ _ (Behind _) (BehindE _) _) | (with_reducible show wpAny _ _ _ _ (BehindE _) _; refine Q_letter ?_; intro Q9 hQ9) | (with_reducible refine QE_letter (by passes_own) ?_; intro Q9 E9 hQ9 hE9 hP9) | (refine Q_letter ?_; intro Q9 hQ9)))
  (k_with "call ref" => (k_here; (with_reducible show wpAny _ _ (call (Value.ref 44) [Value.str _ _]) _ _ _); k_dflt (refine' fault_call_K ?BzN21 ?FzN21 ?XzN21 ?TzN21 ?NzN21 ?AzN21 ?fzN21 ?kzN21 ?rzN21 ?_; (case BzN21 => k_asm); (case FzN21 => k_asm); (case XzN21 => k_asm); (case TzN21 => k_asm); (case NzN21 => k_asm); (case AzN21 => exact rfl); (case fzN21 => exact rfl); (case kzN21 => exact rfl); (case rzN21 => k_room); k_whole); intro _ _ _ _ _ _; (try dsimp only)))
  (k_with "exec Raise some none" => (k_here; k_dflt (refine raise44_exec rfl ?_)))
  (k_with "RaisableF" => ((rename MadeFault _ _ _ => hM9); obtain ⟨t9, dd9, he9⟩ := MadeFault.there hM9; refine ⟨_, _, _, rfl, faultCls (Frag.In.keeps (by k_asm) (Fr.keep (by k_asm))), he9, ?_⟩; clear he9))
  (k_with "leaving ref" => (k_here; (with_reducible show wpAny _ (Around.deeper _ (envOf _ _ _ _ _)) _ _ _ _); first | ((rename FaultOut _ _ _ _ _ => hR9); refine leave_faultOn (by assumption) (by assumption) hR9 ?_; intro h9 R9) | ((rename MadeFault _ _ _ => hM9); refine leave_fault (by assumption) hM9 (by assumption) ?_ rfl; intro _ _)))
  (k_with "setItem ref int" => (k_here; (with_reducible show wpAny _ _ (setItem (Value.ref _) (Value.int _ _) _) _ _ _); k_dflt (refine' rset_K ?FzN25 ?NzN25 ?UzN25 ?dzN25 ?zzN25 ?_; (case FzN25 => k_asm); (case NzN25 => k_asm); (case UzN25 => k_updF); (case dzN25 => assumption); (case zzN25 => ktr_units); k_whole); intro _ _ _ _ _))
  (k_with "call builtin:dict.pop" => (k_here; k_dflt (first | (refine' rpop_none ?NzN26 ?mzN26 ?lzN26 ?dzN26 ?vzN26 ?_; (case NzN26 => k_asm); (case mzN26 => k_mem); (case lzN26 => assumption); (case dzN26 => assumption); (case vzN26 => assumption); k_whole) | (refine' rpop_some ?FzN26 ?NzN26 ?UzN26 ?dzN26 ?vzN26 ?zzN26 ?_; (case FzN26 => k_asm); (case NzN26 => k_asm); (case UzN26 => k_updF); (case dzN26 => assumption); (case vzN26 => assumption); (case zzN26 => ktr_units); k_whole; intro _ _ _ _ _))))
  (k_with "compareOp In int ref" => (k_here; k_dflt (first | (refine' rin_none ?ezN27 ?lzN27 ?dzN27 ?vzN27 ?_; (case ezN27 => ktr_unf); (case lzN27 => assumption); (case dzN27 => assumption); (case vzN27 => assumption); k_whole) | (refine' rin_some ?ezN27 ?lzN27 ?dzN27 ?vzN27 ?_; (case ezN27 => ktr_unf); (case lzN27 => assumption); (case dzN27 => assumption); (case vzN27 => assumption); k_whole))))
  (k_with "subscriptTail" => (k_here; (with_reducible show wpAny _ _ (subscriptTail _ _ (Value.ref _) (Value.int _ _)) _ _ _); k_dflt (refine' ritem_K ?ezN28 ?dzN28 ?vzN28 ?_ (by with_unfolding_all rfl) (by intro _; with_unfolding_all rfl); (case ezN28 => ktr_unf); (case dzN28 => assumption); (case vzN28 => assumption); k_whole)))
  (k_with "call type:dict" => (k_here; (with_reducible show wpAny _ _ (call (Value.type "dict") [Value.ref _]) _ _ _); k_dflt (refine' rcopy_K ?FzN29 ?NzN29 ?bzN29 ?ezN29 ?lzN29 ?dzN29 ?zzN29 ?_; (case FzN29 => k_asm); (case NzN29 => k_asm); (case bzN29 => exact Top.nolimit (by assumption)); (case ezN29 => ktr_unf); (case lzN29 => assumption); (case dzN29 => assumption); (case zzN29 => ktr_units); k_whole); intro _ _ _ _ _ _ _ l9 _; (try k_lt l9)))
  (k_with "subscriptTail" => (k_here; (with_reducible show wpAny _ _ (subscriptTail _ _ (Value.ref _) (Value.int 0 _)) _ _ _); k_dflt (refine' tup_item0 ?tzN210 ?_ (by with_unfolding_all rfl) (by intro _; with_unfolding_all rfl); (case tzN210 => ktr_rel); k_whole)))
  (k_with "subscriptTail" => (k_here; (with_reducible show wpAny _ _ (subscriptTail _ _ (Value.ref _) (Value.int 1 _)) _ _ _); k_dflt (refine' tup_item1 ?tzN211 ?_ (by with_unfolding_all rfl) (by intro _; with_unfolding_all rfl); (case tzN211 => ktr_rel); k_whole)))
  (k_with "exec If" => (k_here; (with_reducible show wpAny _ _ (exec (Stmt.If (PySem.Expr.Compare (PySem.Expr.Name _ _) [CmpOp.Eq] [PySem.Expr.Constant (Const.str _) _ _] _) _ _ _) _) _ _ _); k_dflt (first | (refine' if_eqF ?FzN2b2 ?vzN2b2 ?ezN2b2 ?_ ?azN2b2 ?bzN2b2 ?dzN2b2; (case FzN2b2 => k_asm); (case azN2b2 => exact rfl); (case bzN2b2 => exact rfl); (case dzN2b2 => decide); (case vzN2b2 => first | exact rfl | assumption); (case ezN2b2 => first | with_reducible assumption | decide); k_whole) | (refine' if_eqT ?FzN2b2 ?vzN2b2 ?ezN2b2 ?_ ?azN2b2 ?bzN2b2 ?dzN2b2; (case FzN2b2 => k_asm); (case azN2b2 => exact rfl); (case bzN2b2 => exact rfl); (case dzN2b2 => decide); (case vzN2b2 => first | exact rfl | assumption); (case ezN2b2 => first | with_reducible rfl | with_reducible assumption); k_whole) | (refine' if_eqB ?FzN2b2 ?vzN2b2 ?_ ?_ ?azN2b2 ?bzN2b2 ?dzN2b2; (case FzN2b2 => k_asm); (case azN2b2 => exact rfl); (case bzN2b2 => exact rfl); (case dzN2b2 => decide); (case vzN2b2 => first | exact rfl | assumption); (all_goals k_whole)); (all_goals intro _))))
  (k_with "exec If" => (k_here; (with_reducible show wpAny _ _ (exec (Stmt.If (PySem.Expr.Compare (PySem.Expr.Name _ _) [CmpOp.NotEq] [PySem.Expr.Constant (Const.str _) _ _] _) _ _ _) _) _ _ _); k_dflt (first | (refine' if_neT ?FzN213 ?vzN213 ?ezN213 ?_ ?azN213 ?bzN213 ?dzN213; (case FzN213 => k_asm); (case azN213 => exact rfl); (case bzN213 => exact rfl); (case dzN213 => decide); (case vzN213 => first | exact rfl | assumption); (case ezN213 => first | with_reducible assumption | decide); k_whole) | (refine' if_neF ?FzN213 ?vzN213 ?ezN213 ?_ ?azN213 ?bzN213 ?dzN213; (case FzN213 => k_asm); (case azN213 => exact rfl); (case bzN213 => exact rfl); (case dzN213 => decide); (case vzN213 => first | exact rfl | assumption); (case ezN213 => first | with_reducible rfl | with_reducible assumption); k_whole))))
  (k_with "exec If" => (k_here; (with_reducible show wpAny _ _ (exec (Stmt.If (PySem.Expr.Compare (PySem.Expr.Name _ _) [CmpOp.In] [PySem.Expr.Tuple _ _ _] _) _ _ _) _) _ _ _); k_dflt (first | (refine' if_inT ?FzN214 ?NzN214 ?vzN214 ?lzN214 ?zzN214 ?ezN214 ?_ ?azN214 ?bzN214 ?dzN214; (case FzN214 => k_asm); (case NzN214 => k_asm); (case lzN214 => repeat constructor); (case zzN214 => decide); (case azN214 => exact rfl); (case bzN214 => exact rfl); (case dzN214 => decide); (case vzN214 => first | exact rfl | assumption); (case ezN214 => first | decide | with_reducible assumption); k_whole; intro h' tk' F' N'; (try k_sweep)) | (refine' if_inF ?FzN214 ?NzN214 ?vzN214 ?lzN214 ?zzN214 ?ezN214 ?_ ?azN214 ?bzN214 ?dzN214; (case FzN214 => k_asm); (case NzN214 => k_asm); (case lzN214 => repeat constructor); (case zzN214 => decide); (case azN214 => exact rfl); (case bzN214 => exact rfl); (case dzN214 => decide); (case vzN214 => first | exact rfl | assumption); (case ezN214 => first | with_reducible assumption | decide | (simp only [List.mem_cons, List.not_mem_nil, or_false, not_or]; refine ⟨?_, ?_⟩ <;> with_reducible assumption) | (simp only [List.mem_cons, List.not_mem_nil, or_false, not_or]; refine ⟨?_, ?_, ?_⟩ <;> with_reducible assumption)); k_whole; intro _ _ _ _; (try k_sweep)))))
  (k_with "m k_handed" => (assumption))
  (k_with "compareOp Eq str str" => (k_here; first | (with_reducible refine str_eqF (by assumption) ?_) | (with_reducible refine str_eqT (by assumption) ?_)))
  (k_with "m k_lt" => (intro hlt9; replace hlt9 := allLt_of hlt9; dsimp only [AllLt] at hlt9; revert hlt9))
  (k_with "m k_ne" => ((refine neN ?_; (try dsimp only); first | (with_reducible assumption) | (with_reducible exact Ne.symm (by assumption)) | omega)))
  (k_with "m k_inst" => (exact inst_of (by with_reducible assumption) (by with_reducible assumption) (by with_reducible assumption)))
  (k_with "m k_room" => (((try simp only [depth_under_make, depth_under_kw, depth_in1, depth_deeper, depth_caller]); (try dsimp only [arT]); omega)))
  (k_with "m ktr_unf" => (first | exact News.get (by k_asm) (by k_mem) | exact get1 (by assumption) (by assumption) | exact get2 (by assumption) (by assumption) (by assumption) | exact get3 (by assumption) (by assumption) (by assumption) (by assumption)))
  (k_with "m ktr_units" => ((rw [sizeLine_eq]; first | omega | (refine Nat.le_trans (len_without (by assumption)) ?_; decide))))
  (k_with "m ktr_rel" => (first | exact Fr.tup (by assumption) (by assumption) | exact tup2 (by assumption) (by assumption) (by assumption) | exact tup3 (by assumption) (by assumption) (by assumption) (by assumption) | exact News.isTup (by k_asm) (by k_mem)))
  (k_with "m k_put" => (first | exact put_address | exact put_cfa | exact put_rules | exact put_first))
  trivial
section
variable {w : World} {Z : List Addr} {s : Shared} {x dx rd fd kd wd : Addr} {kds : List Addr} {st : RS} {Q : Value → Shared → Prop} {g h' : Heap} {L' : Addr} {m' : Str → Option Value} {q : Nat → Int × Tok} {n kn rn tk : Nat} {t t' : Tok} {cv : Value}
  {ro o' : Obj} {rkvs : List (Int × Value)} {kvs rvs : List Value} {cv2 : Value} {c2 : Cfa} {T D : Addr}
theorem end_cfa {op : Op} (hs : st.step op = some { st with cfa := c2 }) (hq : DoPost w Z s x dx rd fd kd wd kds st op Q)
    (hg : ∀ b o, b ∉ [x, dx, rd, kd, wd] → s.heap.get? b = some o → g.get? b = some o) (kF : Fr g L' h' m') (hlo : (rd == sysModules) = false) (hrd : ro.IsDictOf (iK w) rkvs) (hrb : Bears (hideAll s.heap (x :: dx :: rd :: kd :: wd :: kds)) rkvs st.rules)
    (hfst : RulesAt w (hideAll s.heap (x :: dx :: rd :: kd :: wd :: kds)) fd st.first) (hka : KeptAll w Z s.heap (hideAll s.heap (x :: dx :: rd :: kd :: wd :: kds)) kvs kds st.kept) (hra : All2 (RowIn w (hideAll s.heap (x :: dx :: rd :: kd :: wd :: kds))) rvs st.rows)
    (ap : (x :: dx :: rd :: kd :: wd :: kds).Nodup) (hz : ∀ z ∈ Z, z ∈ kds)
    (kX : h'.get? x = some (instObj 119 dx)) (kDx : h'.get? dx = some (selfD q n st.addr t cv2 rd fd kd wd)) (kR : h'.get? rd = some ro) (kK : h'.get? kd = some (listOf kvs.toArray kn)) (kW : h'.get? wd = some (listOf rvs.toArray rn))
    (hc : CfaIn (hideAll h' (x :: dx :: rd :: kd :: wd :: kds)) cv2 c2) :
    Q .none { s with heap := h', toks := tk } := by
  have up' := up_of (kds := kds) (own' := x :: dx :: rd :: kd :: wd :: kds) hg kF (fun a ha => .inl ha)
  exact hq _ _ _ rd kds hs ⟨kX, ⟨q, n, t, cv2, kDx, hc⟩, ⟨ro, rkvs, kR, hlo, hrd, hrb.keeps up'⟩, hfst.keeps up', ⟨kvs, kn, kK, hka.imp up' (kds_kept hg kF (apart_ne ap).2.2.2.2.2.2.2.2.2.2.2)⟩, ⟨rvs, rn, kW, hra.imp (fun _ _ r => r.keeps up')⟩, ap, hz⟩ (kept_of hg kF) (fun a ha => .inl ha)
end
set_option maxHeartbeats 16000000 in
theorem do_cfas {w : World} {Z : List Addr} {loose : List Str} {mean : ExcName → Option Value} {mg mb : Str → Option Value} {A₀ : Around} {dp un : Nat} {gd : Option (List Code)} {env : Env} {outer : List Env} {base h₀ : Heap} {L : Addr} {m : Str → Option Value} {s : Shared} {Q E : Value → Shared → Prop} {x dx rd fd kd wd b : Addr} {kds : List Addr} {st : RS} {op : Op} {tn : Tok}
    (hop : op.isCfa) (B : Below A₀ base outer h₀) (F : Fr h₀ L s.heap m) (X : (hd.heap_1 w.params).In h₀) (T : Top topProg loose mean mg mb h₀)
    (hf : env.frame = some L) (hk : env.scope.kind = .function) (hroom : dp + 9 < recursionLimit) (H : DoHyp w Z h₀ L s.heap x dx rd fd kd wd kds st b op)
    (hq : DoPost w Z s x dx rd fd kd wd kds st op Q) (hE : DoFault s x dx rd kd wd (env :: outer) st op E) :
    wpAny (model PySem.Challenge.rw_on0310_01.row.prog w) (arT dp un gd env outer) (call (.ref 116) [.ref x, .str op.name tn, .ref b]) Q E s := by
  revert X; k_fill; intro X
  refine letter fun Qg hg => ?_
  obtain ⟨S, fresh, ⟨vs, nb, hb, hi⟩, ok, few⟩ := H
  refine hg ?_
  clear hg
  refine letter fun Qg hg => ?_
  obtain ⟨obj, ⟨q, n, t, cv, hdx, hcv⟩, ⟨ro, rkvs, hro, hlo, hrd, hrb⟩, hfst, ⟨kvs, kn, hkd, hka⟩, ⟨rvs, rn, hwd, hra⟩, ap, hz⟩ := S
  refine hg ?_
  clear hg
  have N := do_led obj fresh hdx hro hkd hwd
  refine wpAny_call ?_
  k_dflt (refine' enter (binds := [(Str.ofString "self", .ref x), (Str.ofString "name", .str op.name tn), (Str.ofString "args", .ref b)]) B F X T N rfl hf hk ?k6 ?k7 ?k8 ?k9 ?kB ?_ ?c2 ?c3 ?c4 ?c5; (case k6 => k_is); (case k7 => k_is); (case k8 => show dp < _; omega); (case k9 => exact BindsTo.of_eq rfl); (case c5 => decide); (case kB => exact locs rfl); (case c2 => exact rfl); (case c3 => exact rfl); (case c4 => exact rfl); k_whole; intro g L' h' hg hk₁ hL' F' N' B' X' T'; (try dsimp only); (try k_fold))

  have hg₁ : ∀ b o, b ∉ [x, dx, rd, kd, wd] → s.heap.get? b = some o → g.get? b = some o := hg
  clear hg hk₁
  have up := hid_into (kds := kds) hg₁
  dsimp only [selfD, ent] at N'
  refine letter fun Qg hg => ?_
  obtain ⟨ne1, ne2, ne3, ne4, ne5, ne6, ne7, ne8, ne9, neA, nek⟩ := apart_ne ap
  refine hg ?_
  clear hg
  have nek' := nek.2
  have hbT := isTup_of (up _ _ hb)
  obtain ⟨m₁, as, ho⟩ := cfa_parts hop
  rw [ho] at hi
  obtain ⟨t1, vr, rfl, hi2⟩ := ints_cons hi
  refine letter fun Qg hg => ?_
  obtain ⟨nn1, nn2, nn3, nn4, nn5⟩ := cfa_names hop
  refine hg ?_
  clear hg
  rcases cfa_step (st := st) hop ho with ⟨e1, c₁, rfl, hs⟩ | ⟨e1, hs'⟩
  · obtain ⟨t2, vr2, rfl, hi3⟩ := ints_cons hi2
    ((try k_extra "m letter"); w_strict k_steps)
    (try k_unfold)
    (try dsimp only)
    (with_reducible rename Fr _ _ _ _ => kF)
    (with_reducible rename News _ _ _ _ => kN)
    exact end_cfa hs hq hg₁ kF hlo hrd hrb hfst hka hra ap hz (kN (x, _) (by k_mem)).1 (kN (dx, _) (by k_mem)).1 (kN (rd, _) (by k_mem)).1 (kN (kd, _) (by k_mem)).1 (kN (wd, _) (by k_mem)).1 (CfaIn.pair (n := 0) (t := _) (u := _) (new_hid (kN _ (List.Mem.head _)).1 (neN (by omega)) (neN (by omega)) (neN (by omega)) (neN (by omega)) (neN (by omega)) (off_kds hka hg₁ nek' (kN _ (List.Mem.head _)).2.2)))
  · have hs' : CfaWays op m₁ st := hs'
    have hsp : (st.cfa = none ∧ cv = .none) ∨ ∃ p ca u1 u2 cn, st.cfa = some p ∧ cv = .ref ca ∧ IsTup g ca [.int p.1 u1, .int p.2 u2].toArray := cfa_cases hcv up
    have hcvh : handedIn cv = true := hcv.handed
    ((try k_extra "m letter"); w_strict k_steps)
    rcases hsp with ⟨hc, rfl⟩ | ⟨p, ca, u1, u2, cn, hc, rfl, hcT⟩
    all_goals w_strict k_steps
    · (rename FaultOut _ _ _ _ _ => hR9)
      exact hE _ _ _ (hs'.fault hc) (hR9.mono (fun b o e hb => ⟨hg₁ b o hb e, List.not_mem_nil⟩))
    · have hs := hs'.reg hc (by assumption)
      (try k_unfold)
      (try dsimp only)
      (with_reducible rename Fr _ _ _ _ => kF)
      (with_reducible rename News _ _ _ _ => kN)
      exact end_cfa hs hq hg₁ kF hlo hrd hrb hfst hka hra ap hz (kN (x, _) (by k_mem)).1 (kN (dx, _) (by k_mem)).1 (kN (rd, _) (by k_mem)).1 (kN (kd, _) (by k_mem)).1 (kN (wd, _) (by k_mem)).1 (CfaIn.pair (n := 0) (t := _) (u := _) (new_hid (kN _ (List.Mem.head _)).1 (neN (by omega)) (neN (by omega)) (neN (by omega)) (neN (by omega)) (neN (by omega)) (off_kds hka hg₁ nek' (kN _ (List.Mem.head _)).2.2)))
    · have hs := hs'.off hc (by assumption)
      (try k_unfold)
      (try dsimp only)
      (with_reducible rename Fr _ _ _ _ => kF)
      (with_reducible rename News _ _ _ _ => kN)
      exact end_cfa hs hq hg₁ kF hlo hrd hrb hfst hka hra ap hz (kN (x, _) (by k_mem)).1 (kN (dx, _) (by k_mem)).1 (kN (rd, _) (by k_mem)).1 (kN (kd, _) (by k_mem)).1 (kN (wd, _) (by k_mem)).1 (CfaIn.pair (n := 0) (t := _) (u := _) (new_hid (kN _ (List.Mem.head _)).1 (neN (by omega)) (neN (by omega)) (neN (by omega)) (neN (by omega)) (neN (by omega)) (off_kds hka hg₁ nek' (kN _ (List.Mem.head _)).2.2)))
set_option maxHeartbeats 1000000 in
theorem do_any {w : World} {Z : List Addr} {loose : List Str} {mean : ExcName → Option Value} {mg mb : Str → Option Value} {A₀ : Around} {dp un : Nat} {gd : Option (List Code)} {env : Env} {outer : List Env} {base h₀ : Heap} {L : Addr} {m : Str → Option Value} {s : Shared} {Q E : Value → Shared → Prop} {x dx rd fd kd wd b : Addr} {kds : List Addr} {st : RS} {op : Op} {tn : Tok}
    (B : Below A₀ base outer h₀) (F : Fr h₀ L s.heap m) (X : (hd.heap_1 w.params).In h₀) (T : Top topProg loose mean mg mb h₀)
    (hf : env.frame = some L) (hk : env.scope.kind = .function) (hroom : dp + 9 < recursionLimit) (hun : un + 100 < cLine) (H : DoHyp w Z h₀ L s.heap x dx rd fd kd wd kds st b op)
    (hq : DoPost w Z s x dx rd fd kd wd kds st op Q) (hE : DoFault s x dx rd kd wd (env :: outer) st op E) :
    wpAny (model PySem.Challenge.rw_on0310_01.row.prog w) (arT dp un gd env outer) (call (.ref 116) [.ref x, .str op.name tn, .ref b]) Q E s := by
  cases op with
  | nop => exact do_nop B F X T hf hk hroom H hq hE
  | remember => exact do_remember B F X T hf hk hroom H hq hE
  | back => exact do_back B F X T hf hk hroom hun H hq hE
  | adv a => exact do_adv B F X T hf hk hroom H hq hE
  | loc a => exact do_loc B F X T hf hk hroom H hq hE
  | restore a => exact do_rule (op := .restore a) trivial B F X T hf hk hroom H hq hE
  | undef a => exact do_rule (op := .undef a) trivial B F X T hf hk hroom H hq hE
  | same a => exact do_rule (op := .same a) trivial B F X T hf hk hroom H hq hE
  | cfaReg a => exact do_cfas (op := .cfaReg a) trivial B F X T hf hk hroom H hq hE
  | cfaOff a => exact do_cfas (op := .cfaOff a) trivial B F X T hf hk hroom H hq hE
  | offset a c => exact do_rule (op := .offset a c) trivial B F X T hf hk hroom H hq hE
  | offsetX a c => exact do_rule (op := .offsetX a c) trivial B F X T hf hk hroom H hq hE
  | valOff a c => exact do_rule (op := .valOff a c) trivial B F X T hf hk hroom H hq hE
  | reg a c => exact do_rule (op := .reg a c) trivial B F X T hf hk hroom H hq hE
  | cfa a c => exact do_cfas (op := .cfa a c) trivial B F X T hf hk hroom H hq hE
theorem KeptAll.impZ {w : World} {Z Z' : List Addr} {h hid h' hid' : Heap} {vs : List Value} {ds : List Addr} {l : List (Cfa × Rules)} (x : KeptAll w Z h hid vs ds l) (hs : ∀ z ∈ Z, z ∈ Z') (k : ∀ b o, hid.get? b = some o → hid'.get? b = some o) (kd : ∀ d ∈ ds, d ∉ Z → ∀ o, h.get? d = some o → h'.get? d = some o ∧ d ∉ Z')
    (kz : ∀ z ∈ Z, ∃ o, h'.get? z = some o) : KeptAll w Z' h' hid' vs ds l := by
  induction x with
  | nil => exact .nil
  | skip hz _ _ ih => exact .skip (hs _ hz) (kz _ hz) (ih fun d hd => kd d (.tail _ hd))
  | cons h1 h2 h3 h4 h5 h6 h7 _ ih => exact .cons (k _ _ h1) (h2.keeps k) (kd _ (.head _) h7 _ h3).1 h4 h5 (h6.keeps k) (kd _ (.head _) h7 _ h3).2 (ih fun d hd => kd d (.tail _ hd))
theorem KeptAll.skips {w : World} {Z : List Addr} {h hid : Heap} : ∀ Y : List Addr, (∀ y ∈ Y, y ∈ Z ∧ ∃ o, h.get? y = some o) → KeptAll w Z h hid [] Y []
  | [], _ => .nil
  | y :: Y, hy => .skip (hy y (.head _)).1 (hy y (.head _)).2 (KeptAll.skips Y fun z hz => hy z (.tail _ hz))

section
variable {w : World} {Z : List Addr} {h h' : Heap} {x dx rd fd kd wd : Addr} {kds : List Addr} {st : RS}
theorem SelfIn.offZ (S : SelfIn w Z h x dx rd fd kd wd kds st) : ∀ a ∈ [x, dx, rd, kd, wd], a ∉ Z := fun a ha hz => by
  have h1 := S.zs a hz
  have ap := S.apart
  simp only [List.nodup_cons, List.mem_cons, not_or] at ap
  simp only [List.mem_cons, List.not_mem_nil, or_false] at ha
  rcases ha with rfl | rfl | rfl | rfl | rfl
  · exact ap.1.2.2.2.2 h1
  · exact ap.2.1.2.2.2 h1
  · exact ap.2.2.1.2.2 h1
  · exact ap.2.2.2.1.2 h1
  · exact ap.2.2.2.2.1 h1
/-- only hidden objects change -/
theorem SelfIn.keepZ (S : SelfIn w Z h x dx rd fd kd wd kds st) (k : Kept Z h h') (kz : ∀ z ∈ Z, ∃ o, h'.get? z = some o) : SelfIn w Z h' x dx rd fd kd wd kds st := by
  have off := S.offZ
  obtain ⟨obj, ⟨q, n, t, cv, hdx, hcv⟩, ⟨ro, rkvs, hro, hlo, hrd, hrb⟩, hfst, ⟨kvs, kn, hkd, hka⟩, ⟨rvs, rn, hwd, hra⟩, ap, hz⟩ := S
  have up : ∀ b o, (hideAll h (x :: dx :: rd :: kd :: wd :: kds)).get? b = some o → (hideAll h' (x :: dx :: rd :: kd :: wd :: kds)).get? b = some o :=
    hide_mono fun b o e hb => ⟨k b o (fun q => hb (by simp [hz b q])) e, hb⟩
  exact ⟨k _ _ (off x (by simp)) obj, ⟨q, n, t, cv, k _ _ (off dx (by simp)) hdx, hcv.keeps up⟩, ⟨ro, rkvs, k _ _ (off rd (by simp)) hro, hlo, hrd, hrb.keeps up⟩, hfst.keeps up,
    ⟨kvs, kn, k _ _ (off kd (by simp)) hkd, hka.impZ (fun _ q => q) up (fun d _ hn o e => ⟨k _ _ hn e, hn⟩) kz⟩, ⟨rvs, rn, k _ _ (off wd (by simp)) hwd, hra.imp fun _ _ r => r.keeps up⟩, ap, hz⟩
/-- hidden objects may be let go -/
theorem KeptAll.drop {w : World} {Z Z' : List Addr} {h hid h' hid' : Heap} {vs : List Value} {ds : List Addr} {l : List (Cfa × Rules)} (x : KeptAll w Z h hid vs ds l) (hs : ∀ z ∈ Z', z ∈ Z) (k : ∀ b o, hid.get? b = some o → hid'.get? b = some o)
    (kd : ∀ d ∈ ds, d ∉ Z → ∀ o, h.get? d = some o → h'.get? d = some o) (kz : ∀ z ∈ Z', ∃ o, h'.get? z = some o) : KeptAll w Z' h' hid' vs (ds.filter fun d => decide (d ∉ Z ∨ d ∈ Z')) l := by
  induction x with
  | nil => exact .nil
  | skip hz _ _ ih =>
    rename_i d _ _ _ _ _
    by_cases hd : d ∈ Z'
    · rw [List.filter_cons_of_pos (by simp [hd])]
      exact .skip hd (kz _ hd) (ih fun d hd => kd d (.tail _ hd))
    · rw [List.filter_cons_of_neg (by simp [hd, hz])]
      exact ih fun d hd => kd d (.tail _ hd)
  | cons h1 h2 h3 h4 h5 h6 h7 _ ih =>
    rw [List.filter_cons_of_pos (by simp [h7])]
    exact .cons (k _ _ h1) (h2.keeps k) (kd _ (.head _) h7 _ h3) h4 h5 (h6.keeps k) (fun q => h7 (hs _ q)) (ih fun d hd => kd d (.tail _ hd))
theorem SelfIn.dropZ {Z' : List Addr} (S : SelfIn w Z h x dx rd fd kd wd kds st) (hs : ∀ z ∈ Z', z ∈ Z) (k : Kept Z h h') (kz : ∀ z ∈ Z', ∃ o, h'.get? z = some o) : SelfIn w Z' h' x dx rd fd kd wd (kds.filter fun d => decide (d ∉ Z ∨ d ∈ Z')) st := by
  have off := S.offZ
  obtain ⟨obj, ⟨q, n, t, cv, hdx, hcv⟩, ⟨ro, rkvs, hro, hlo, hrd, hrb⟩, hfst, ⟨kvs, kn, hkd, hka⟩, ⟨rvs, rn, hwd, hra⟩, ap, hz⟩ := S
  have sl : (x :: dx :: rd :: kd :: wd :: kds.filter fun d => decide (d ∉ Z ∨ d ∈ Z')).Sublist (x :: dx :: rd :: kd :: wd :: kds) := by
    repeat apply List.Sublist.cons₂
    exact List.filter_sublist
  have up : ∀ b o, (hideAll h (x :: dx :: rd :: kd :: wd :: kds)).get? b = some o → (hideAll h' (x :: dx :: rd :: kd :: wd :: kds.filter fun d => decide (d ∉ Z ∨ d ∈ Z'))).get? b = some o :=
    hide_mono fun b o e hb => ⟨k b o (fun q => hb (by simp [hz b q])) e, fun q => hb (sl.subset q)⟩
  exact ⟨k _ _ (off x (by simp)) obj, ⟨q, n, t, cv, k _ _ (off dx (by simp)) hdx, hcv.keeps up⟩, ⟨ro, rkvs, k _ _ (off rd (by simp)) hro, hlo, hrd, hrb.keeps up⟩, hfst.keeps up,
    ⟨kvs, kn, k _ _ (off kd (by simp)) hkd, hka.drop hs up (fun d _ hn o e => k _ _ hn e) kz⟩, ⟨rvs, rn, k _ _ (off wd (by simp)) hwd, hra.imp fun _ _ r => r.keeps up⟩, ap.sublist sl, fun z q => List.mem_filter.mpr ⟨hz z (hs z q), by simp [q]⟩⟩
/-- new objects are hidden too -/
theorem SelfIn.addZ {Y : List Addr} (S : SelfIn w Z h x dx rd fd kd wd kds st) (k : ∀ b o, h.get? b = some o → h'.get? b = some o) (hn : ∀ y ∈ Y, h.get? y = none) (hy : ∀ y ∈ Y, ∃ o, h'.get? y = some o) (nd : Y.Nodup) : SelfIn w (Z ++ Y) h' x dx rd fd kd wd (kds ++ Y) st := by
  obtain ⟨obj, ⟨q, n, t, cv, hdx, hcv⟩, ⟨ro, rkvs, hro, hlo, hrd, hrb⟩, hfst, ⟨kvs, kn, hkd, hka⟩, ⟨rvs, rn, hwd, hra⟩, ap, hz⟩ := S
  have th : ∀ a ∈ x :: dx :: rd :: kd :: wd :: kds, ∃ o, h.get? a = some o := fun a ha => by
    simp only [List.mem_cons] at ha
    rcases ha with rfl | rfl | rfl | rfl | rfl | ha
    · exact ⟨_, obj⟩
    · exact ⟨_, hdx⟩
    · exact ⟨_, hro⟩
    · exact ⟨_, hkd⟩
    · exact ⟨_, hwd⟩
    · exact hka.there a ha
  have up : ∀ b o, (hideAll h (x :: dx :: rd :: kd :: wd :: kds)).get? b = some o → (hideAll h' (x :: dx :: rd :: kd :: wd :: (kds ++ Y))).get? b = some o :=
    hide_mono fun b o e hb => ⟨k b o e, fun q => by
      have q' : b ∈ (x :: dx :: rd :: kd :: wd :: kds) ++ Y := q
      rcases List.mem_append.mp q' with q' | q'
      · exact hb q'
      · rw [hn b q'] at e; cases e⟩
  have yz : ∀ d, (∃ o, h.get? d = some o) → d ∉ Y := fun d hd q => by obtain ⟨o, e⟩ := hd; rw [hn d q] at e; cases e
  refine ⟨k _ _ obj, ⟨q, n, t, cv, k _ _ hdx, hcv.keeps up⟩, ⟨ro, rkvs, k _ _ hro, hlo, hrd, hrb.keeps up⟩, hfst.keeps up,
    ⟨kvs, kn, k _ _ hkd, ?_⟩, ⟨rvs, rn, k _ _ hwd, hra.imp fun _ _ r => r.keeps up⟩, ?_, fun z hzz => ?_⟩
  · have a1 : KeptAll w (Z ++ Y) h' (hideAll h' (x :: dx :: rd :: kd :: wd :: (kds ++ Y))) kvs kds st.kept :=
      hka.impZ (fun z hz => List.mem_append_left _ hz) up (fun d _ hd o e => ⟨k _ _ e, fun q => (List.mem_append.mp q).elim hd (yz d ⟨o, e⟩)⟩) (fun z q => let ⟨o, e⟩ := hka.there z (hz z q); ⟨o, k _ _ e⟩)
    have a2 := a1.append (KeptAll.skips Y fun y q => ⟨List.mem_append_right _ q, hy y q⟩)
    rwa [List.append_nil, List.append_nil] at a2
  · have e : x :: dx :: rd :: kd :: wd :: (kds ++ Y) = (x :: dx :: rd :: kd :: wd :: kds) ++ Y := rfl
    rw [e, List.nodup_append]
    exact ⟨ap, nd, fun a ha b hb q => yz a (th a ha) (q ▸ hb)⟩
  · rcases List.mem_append.mp hzz with q | q
    · exact List.mem_append_left _ (hz z q)
    · exact List.mem_append_right _ q
end

structure FDE where
  begin : Int
  size : Int
  heads : List Op
  ops : List Op
noncomputable def RS.init (a : Int) : RS := ⟨a, none, fun _ => none, fun _ => none, [], []⟩
noncomputable def RS.run (s : RS) : List Op → Option RS
  | [] => some s
  | op :: r => match s.step op with
    | none => none
    | some s' => RS.run s' r
noncomputable def RS.end' (s : RS) : List Row := s.rows ++ [⟨s.addr, s.cfa, s.rules⟩]
/-- the rows that the program tells -/
noncomputable def FDE.rows (f : FDE) : Option (List Row) := match (RS.init f.begin).run f.heads with
  | none => none
  | some s => match RS.run { s with first := s.rules } f.ops with
    | none => none
    | some s' => some s'.end'
theorem RS.run_append (s : RS) (l r : List Op) : s.run (l ++ r) = (s.run l).bind fun s' => s'.run r := by
  induction l generalizing s with
  | nil => rfl
  | cons op l ih =>
    rw [List.cons_append, RS.run, RS.run]
    cases s.step op with
    | none => rfl
    | some s' => exact ih s'
theorem RS.run_take {s s' : RS} {l : List Op} {i : Nat} {op : Op} (hi : l[i]? = some op) (h : s.run (l.take i) = some s') : s.run (l.take (i + 1)) = s'.step op := by
  rw [List.take_add_one, hi, RS.run_append, h]
  show (Option.some s').bind _ = _
  simp only [Option.bind_some, Option.toList, RS.run]
  cases s'.step op <;> rfl
theorem RS.run_none {s s' : RS} {l : List Op} {i : Nat} {op : Op} (hi : l[i]? = some op) (h : s.run (l.take i) = some s') (hn : s'.step op = none) : s.run l = none := by
  have e : l = l.take (i + 1) ++ l.drop (i + 1) := (List.take_append_drop _ _).symm
  rw [e, RS.run_append, RS.run_take hi h, hn]; rfl
theorem all_of {α : Type} {o : Option α} {P : α → Prop} {x : α} (h : o.elim True P) (e : o = some x) : P x := by rw [e] at h; exact h
theorem RS.step_few {s s' : RS} {op : Op} {n : Nat} (h : s.step op = some s') (hn : s.kept.length ≤ n ∧ s.rows.length ≤ n) : s'.kept.length ≤ n + 1 ∧ s'.rows.length ≤ n + 1 := by
  have base : s.kept.length ≤ n + 1 ∧ s.rows.length ≤ n + 1 := ⟨Nat.le_succ_of_le hn.1, Nat.le_succ_of_le hn.2⟩
  have go : ∀ a, (s.go a).elim True fun s' => s'.kept.length ≤ n + 1 ∧ s'.rows.length ≤ n + 1 := fun a => by
    unfold RS.go
    split
    · exact True.intro
    · split
      · exact ⟨base.1, by rw [List.length_append]; exact Nat.succ_le_succ hn.2⟩
      · exact base
  refine all_of (P := fun s' : RS => s'.kept.length ≤ n + 1 ∧ s'.rows.length ≤ n + 1) ?_ h
  clear h
  cases op with
  | adv a => exact go _
  | loc a => exact go _
  | remember => exact ⟨by rw [List.length_append]; exact Nat.succ_le_succ hn.1, base.2⟩
  | back =>
    show Option.elim (match s.kept.getLast? with | none => none | some p => some _) True _
    cases s.kept.getLast? with
    | none => exact True.intro
    | some p => exact ⟨by rw [List.length_dropLast]; exact Nat.le_trans (Nat.sub_le _ _) base.1, base.2⟩
  | cfaReg m =>
    show Option.elim (match s.cfa with | none => none | some p => some _) True _
    cases s.cfa with
    | none => exact True.intro
    | some p => exact base
  | cfaOff m =>
    show Option.elim (match s.cfa with | none => none | some p => some _) True _
    cases s.cfa with
    | none => exact True.intro
    | some p => exact base
  | _ => exact base
theorem RS.run_few {s s' : RS} {l : List Op} {n : Nat} (h : s.run l = some s') (hn : s.kept.length ≤ n ∧ s.rows.length ≤ n) : s'.kept.length ≤ n + l.length ∧ s'.rows.length ≤ n + l.length := by
  induction l generalizing s n with
  | nil => cases h; exact hn
  | cons op l ih =>
    rw [RS.run] at h
    cases hs : s.step op with
    | none => rw [hs] at h; cases h
    | some s1 =>
      rw [hs] at h
      have := ih h (RS.step_few hs hn)
      rw [List.length_cons]; omega

inductive FdeIn (h : Heap) (a : Addr) (f : FDE) : Prop
  | mk (da c dc hl ol : Addr) (q1 q2 q3 q4 p1 p2 p3 p4 : Int × Tok) (n k nh no : Nat) (t1 t2 : Tok) (v1 v2 v3 : Value) (hv ov : List Value) : (h.get? a = some (instObj 182 da)) → (h.get? da = some (dictOf [ent (Str.ofString "cie") q1 (.ref c), ent (Str.ofString "begin") q2 (.int f.begin t1), ent (Str.ofString "size") q3 (.int f.size t2), ent (Str.ofString "ops") q4 (.ref ol)] n)) → (h.get? c = some (instObj 161 dc)) → (h.get? dc = some (dictOf [ent (Str.ofString "code_align") p1 v1, ent (Str.ofString "data_align") p2 v2, ent (Str.ofString "return_register") p3 v3, ent (Str.ofString "ops") p4 (.ref hl)] k)) → (h.get? hl = some (listOf hv.toArray nh)) → (h.get? ol = some (listOf ov.toArray no)) → All2 (OpIn h) hv f.heads → All2 (OpIn h) ov f.ops → FdeIn h a f
theorem OpIn.up {h h' : Heap} {v : Value} {op : Op} (x : OpIn h v op) (k : ∀ b o, h.get? b = some o → h'.get? b = some o) : OpIn h' v op := by
  obtain ⟨a, b, t, n, q, vs, rfl, h1, h2, h3⟩ := x
  exact ⟨a, b, t, n, q, vs, rfl, k _ _ h1, k _ _ h2, h3⟩
theorem FdeIn.up {h h' : Heap} {a : Addr} {f : FDE} (x : FdeIn h a f) (k : ∀ b o, h.get? b = some o → h'.get? b = some o) : FdeIn h' a f := by
  obtain ⟨da, c, dc, hl, ol, q1, q2, q3, q4, p1, p2, p3, p4, n, m, nh, no, t1, t2, v1, v2, v3, hv, ov, h1, h2, h3, h4, h5, h6, h7, h8⟩ := x
  exact ⟨da, c, dc, hl, ol, q1, q2, q3, q4, p1, p2, p3, p4, n, m, nh, no, t1, t2, v1, v2, v3, hv, ov, k _ _ h1, k _ _ h2, k _ _ h3, k _ _ h4, k _ _ h5, k _ _ h6, h7.imp fun _ _ r => r.up k, h8.imp fun _ _ r => r.up k⟩
theorem inst_base {g h : Heap} {L x C dx : Addr} {m : Str → Option Value} {es : List DictEntry} {n : Nat} (F : Fr g L h m) (hx : g.get? x = some (instObj C dx)) (hd : g.get? dx = some (dictOf es n)) : InstAt h x (instObj C dx) C (some (dictOf es n)) :=
  ⟨F.keep _ _ hx, rfl, rfl, F.keep _ _ hd⟩
section
variable {M : Model} {A : Around} {E : Value → Shared → Prop} {s' : Shared} {base g g₂ h : Heap} {outer : List Env} {L a e : Addr} {m : Str → Option Value} {name : Str} {scope : Scope} {cd : Value} {Q : Unit → Shared → Prop}
theorem leave_faultAt (K : Below A base outer g) (hLg : g.get? L = none) (R : FaultOut [] (envOf name scope L a cd :: outer) g e s'.heap)
    (hQ : ∀ h', FaultOut [] outer g e h' → Q () { s' with heap := h' }) :
    wpAny M (A.deeper (envOf name scope L a cd)) (leaving (envOf name scope L a cd) (.ref e)) Q E s' := by
  obtain ⟨⟨B, a0, hB, hfl⟩, hsl⟩ := R
  refine wpAny_leaves_onW (Around.frames_deeper K.stack) rfl hfl fun h' x1 x2 => hQ h' ⟨⟨B, a0, fun b o hb _ hn => hB b o hb (List.not_mem_nil) fun hm => ?_, x1⟩, fun b o hb _ hn => ?_⟩
  · rcases List.mem_filterMap.mp hm with ⟨env, henv, hf⟩
    rcases List.mem_cons.mp henv with rfl | henv
    · have : L = b := Option.some.inj hf
      rw [← this, hLg] at hb; cases hb
    · exact hn (List.mem_filterMap.mpr ⟨env, henv, hf⟩)
  · obtain ⟨sl, hsl'⟩ := hsl b o hb (List.not_mem_nil) hn
    obtain ⟨sl2, h2⟩ := x2 b { o with slots := sl } hsl' hn
    exact ⟨sl2, h2⟩
theorem fr_off (F : Fr g L h m) : g.get? L = none := Heap.get?_none_of_le F.above
end

noncomputable abbrev mRows (x a : Addr) (u1 u2 : Option Value) : Str → Option Value := fun z => if z = Str.ofString "args" then u2 else if z = Str.ofString "name" then u1 else if z = Str.ofString "reckoning" then some (.ref x) else if z = Str.ofString "fde" then some (.ref a) else none
inductive JRows (w : World) (g : Heap) (L a x dx fd kd wd : Addr) (Z : List Addr) (st₀ : RS) (ops : List Op) (i : Nat) (h : Heap) : Prop
  | mk (u1 u2 rd kds st : _) : Fr g L h (mRows x a u1 u2) → SelfIn w Z h x dx rd fd kd wd kds st → (st₀.run (ops.take i) = some st) → ((∀ b ∈ x :: dx :: rd :: kd :: wd :: kds, g.get? b = none)) → JRows w g L a x dx fd kd wd Z st₀ ops i h
theorem mRows_over {x a : Addr} {u1 u2 v1 v2 : Option Value} {y : Str} : (if y = Str.ofString "args" then v2 else if y = Str.ofString "name" then v1 else mRows x a u1 u2 y) = mRows x a v1 v2 y := by
  simp only [mRows]
  by_cases h1 : y = Str.ofString "args"
  · rw [if_pos h1, if_pos h1]
  · rw [if_neg h1, if_neg h1]
    by_cases h2 : y = Str.ofString "name"
    · rw [if_pos h2, if_neg h1, if_pos h2]
    · rw [if_neg h2, if_neg h2, if_neg h1, if_neg h2]
theorem own5_none {g : Heap} {x dx rd kd wd : Addr} {kds : List Addr} (hg0 : ∀ b ∈ x :: dx :: rd :: kd :: wd :: kds, g.get? b = none) : ∀ b ∈ [x, dx, rd, kd, wd], g.get? b = none := fun b hb => hg0 b (by
  simp only [List.mem_cons, List.not_mem_nil, or_false] at hb ⊢
  rcases hb with r | r | r | r | r <;> simp [r])
theorem fault_base {g h : Heap} {L e : Addr} {m : Str → Option Value} {as : List Addr} {l : List Env} {h' : Heap} (F : Fr g L h m) (hn : ∀ b ∈ as, g.get? b = none) (R : FaultOut as l h e h') : FaultOut [] l g e h' :=
  R.mono fun b o e _ => ⟨F.keep _ _ e, fun q => by rw [hn b q] at e; cases e⟩
section
variable {w : World} {g h : Heap} {L a x dx rd fd kd wd b : Addr} {Z kds : List Addr} {st₀ st : RS} {ops : List Op} {i : Nat}
theorem led_self {q : Nat → Int × Tok} {n' : Nat} {t' : Tok} {cv : Value} (S : SelfIn w Z h x dx rd fd kd wd kds st) (hLZ : L ∈ Z) (hg0 : ∀ b ∈ x :: dx :: rd :: kd :: wd :: kds, g.get? b = none) (hdx : h.get? dx = some (selfD q n' st.addr t' cv rd fd kd wd)) (own : List (Addr × Obj)) (hown : own = restOf g h L []) :
    News g L h ((x, instObj 119 dx) :: (dx, selfD q n' st.addr t' cv rd fd kd wd) :: own) := by
  subst hown
  intro p hp
  rcases List.mem_cons.mp hp with rfl | hp
  · exact ⟨S.obj, fun e => S.offZ x (by simp) (by rw [show x = L from e]; exact hLZ), hg0 _ (by simp)⟩
  · rcases List.mem_cons.mp hp with rfl | hp
    · exact ⟨hdx, fun e => S.offZ dx (by simp) (by rw [show dx = L from e]; exact hLZ), hg0 _ (by simp)⟩
    · obtain ⟨h1, h2, _, h4⟩ := mem_restOf.mp hp
      exact ⟨h1, h2, h4⟩
theorem led_self3 {q : Nat → Int × Tok} {n' : Nat} {t' : Tok} {cv : Value} {ro : Obj} (S : SelfIn w Z h x dx rd fd kd wd kds st) (hLZ : L ∈ Z) (hg0 : ∀ b ∈ x :: dx :: rd :: kd :: wd :: kds, g.get? b = none) (hdx : h.get? dx = some (selfD q n' st.addr t' cv rd fd kd wd)) (hro : h.get? rd = some ro) :
    ∃ own, own = restOf g h L [x, dx, rd] ∧ OwnOff own [x, dx, rd] ∧ News g L h ((x, instObj 119 dx) :: (dx, selfD q n' st.addr t' cv rd fd kd wd) :: (rd, ro) :: own) := by
  refine ⟨_, rfl, rest_off, ?_⟩
  intro p hp
  rcases List.mem_cons.mp hp with rfl | hp
  · exact ⟨S.obj, fun e => S.offZ x (by simp) (by rw [show x = L from e]; exact hLZ), hg0 _ (by simp)⟩
  · rcases List.mem_cons.mp hp with rfl | hp
    · exact ⟨hdx, fun e => S.offZ dx (by simp) (by rw [show dx = L from e]; exact hLZ), hg0 _ (by simp)⟩
    · rcases List.mem_cons.mp hp with rfl | hp
      · exact ⟨hro, fun e => S.offZ rd (by simp) (by rw [show rd = L from e]; exact hLZ), hg0 _ (by simp)⟩
      · obtain ⟨h1, h2, _, h4⟩ := mem_restOf.mp hp
        exact ⟨h1, h2, h4⟩
theorem led_self4 {q : Nat → Int × Tok} {n' rn : Nat} {t' : Tok} {cv : Value} {ro : Obj} {rvs : List Value} (S : SelfIn w Z h x dx rd fd kd wd kds st) (hLZ : L ∈ Z) (hg0 : ∀ b ∈ x :: dx :: rd :: kd :: wd :: kds, g.get? b = none) (hdx : h.get? dx = some (selfD q n' st.addr t' cv rd fd kd wd)) (hro : h.get? rd = some ro) (hwd : h.get? wd = some (listOf rvs.toArray rn)) :
    ∃ own, own = restOf g h L [x, dx, rd, wd] ∧ OwnOff own [x, dx, rd, wd] ∧ News g L h ((x, instObj 119 dx) :: (dx, selfD q n' st.addr t' cv rd fd kd wd) :: (rd, ro) :: (wd, listOf rvs.toArray rn) :: own) := by
  refine ⟨_, rfl, rest_off, ?_⟩
  intro p hp
  rcases List.mem_cons.mp hp with rfl | hp
  · exact ⟨S.obj, fun e => S.offZ x (by simp) (by rw [show x = L from e]; exact hLZ), hg0 _ (by simp)⟩
  · rcases List.mem_cons.mp hp with rfl | hp
    · exact ⟨hdx, fun e => S.offZ dx (by simp) (by rw [show dx = L from e]; exact hLZ), hg0 _ (by simp)⟩
    · rcases List.mem_cons.mp hp with rfl | hp
      · exact ⟨hro, fun e => S.offZ rd (by simp) (by rw [show rd = L from e]; exact hLZ), hg0 _ (by simp)⟩
      · rcases List.mem_cons.mp hp with rfl | hp
        · exact ⟨hwd, fun e => S.offZ wd (by simp) (by rw [show wd = L from e]; exact hLZ), hg0 _ (by simp)⟩
        · obtain ⟨h1, h2, _, h4⟩ := mem_restOf.mp hp
          exact ⟨h1, h2, h4⟩
/-- the reckoning, once the frame alone has changed -/
theorem self_call {h₂ : Heap} {m m₂ : Str → Option Value} {led : List (Addr × Obj)} (S : SelfIn w Z h x dx rd fd kd wd kds st) (F : Fr g L h m) (F₂ : Fr g L h₂ m₂) (N₂ : News g L h₂ led) (sub : ∀ p ∈ restOf g h L [], p ∈ led) (hLZ : L ∈ Z) :
    SelfIn w Z h₂ x dx rd fd kd wd kds st := by
  have k : Kept [L] h h₂ := rest_kept F F₂ N₂ sub
  refine S.keepZ (k.mono fun a ha => by rw [List.mem_singleton.mp ha]; exact hLZ) fun z hz => ?_
  by_cases e : z = L
  · obtain ⟨oL, _, _, hL, _⟩ := F₂.ns
    exact ⟨oL, e ▸ hL⟩
  · obtain ⟨kvs, kn, hkd, hka⟩ := S.kpt
    obtain ⟨o, ho⟩ := hka.there z (S.zs z hz)
    exact ⟨o, k _ _ (by simpa using e) ho⟩
theorem self_hyp {h₂ : Heap} {vs : List Value} {k : Nat} {op : Op} (S₂ : SelfIn w Z h₂ x dx rd fd kd wd kds st) (hLZ : L ∈ Z) (hg0 : ∀ b ∈ x :: dx :: rd :: kd :: wd :: kds, g.get? b = none) (up : ∀ b o, g.get? b = some o → h₂.get? b = some o)
    (hb : g.get? b = some (tupOb vs k)) (hi : IntsAre vs op.args) (hok : op.ok) (few : st.kept.length < 1000 ∧ st.rows.length < 1000) : DoHyp w Z g L h₂ x dx rd fd kd wd kds st b op :=
  ⟨S₂, fun a ha => ⟨fun e => S₂.offZ a ha (e ▸ hLZ), hg0 a (by simp only [List.mem_cons, List.not_mem_nil, or_false] at ha ⊢; rcases ha with r | r | r | r | r <;> simp [r])⟩,
    ⟨vs, k, hideAll_get _ (up _ _ hb) (fun hm => by rw [hg0 _ hm] at hb; cases hb), hi⟩, hok, few⟩
theorem self_end {h₂ h' : Heap} {rd' : Addr} {kds' : List Addr} {st' : RS} {op : Op} {u1 u2 : Option Value} (F₂ : Fr g L h₂ (mRows x a u1 u2)) (hLZ : L ∈ Z) (hg0 : ∀ b ∈ x :: dx :: rd :: kd :: wd :: kds, g.get? b = none) (S₂ : SelfIn w Z h₂ x dx rd fd kd wd kds st)
    (S' : SelfIn w Z h' x dx rd' fd kd wd kds' st') (K' : Kept [x, dx, rd, kd, wd] h₂ h') (hn : ∀ a ∈ rd' :: kds', a ∈ rd :: kds ∨ h₂.get? a = none) (hrun : st₀.run (ops.take i) = some st) (hop : ops[i]? = some op) (hs : st.step op = some st') :
    Fr g L h' (mRows x a u1 u2) ∧ JRows w g L a x dx fd kd wd Z st₀ ops (i + 1) h' := by
  have F' : Fr g L h' (mRows x a u1 u2) := Fr.after F₂ K' fun c hc => ⟨fun e => S₂.offZ c hc (e ▸ hLZ), hg0 c (by simp only [List.mem_cons, List.not_mem_nil, or_false] at hc ⊢; rcases hc with r | r | r | r | r <;> simp [r])⟩
  refine ⟨F', u1, u2, rd', kds', st', F', S', (RS.run_take hop hrun).trans hs, fun c hc => ?_⟩
  have none2 : h₂.get? c = none → g.get? c = none := fun e => by
    cases q : g.get? c with
    | none => rfl
    | some o => rw [F₂.keep _ _ q] at e; cases e
  simp only [List.mem_cons] at hc hn
  rcases hc with r | r | r | r | r | r
  · exact hg0 _ (by simp [r])
  · exact hg0 _ (by simp [r])
  · rcases hn c (.inl r) with q | q
    · rcases q with q | q <;> exact hg0 _ (by simp [q])
    · exact none2 q
  · exact hg0 _ (by simp [r])
  · exact hg0 _ (by simp [r])
  · rcases hn c (.inr r) with q | q
    · rcases q with q | q <;> exact hg0 _ (by simp [q])
    · exact none2 q
/-- the iterator's objects stay -/
theorem self_fp {h₂ h' : Heap} {m m₂ : Str → Option Value} {led : List (Addr × Obj)} {fp : List Addr} (F : Fr g L h m) (F₂ : Fr g L h₂ m₂) (N₂ : News g L h₂ led) (sub : ∀ p ∈ restOf g h L [], p ∈ led) (S : SelfIn w Z h x dx rd fd kd wd kds st) (hLZ : L ∈ Z) (hg0 : ∀ b ∈ x :: dx :: rd :: kd :: wd :: kds, g.get? b = none)
    (K' : Kept [x, dx, rd, kd, wd] h₂ h') (hfp : ∀ b ∈ fp, b ∈ Z ∧ b ≠ L ∨ ∃ o, g.get? b = some o) : ∀ b ∈ fp, ∀ o, h.get? b = some o → h'.get? b = some o := fun b hb o e => by
  have k : Kept [L] h h₂ := rest_kept F F₂ N₂ sub
  rcases hfp b hb with ⟨h1, h2⟩ | ⟨o', h1⟩
  · exact K' _ _ (fun q => S.offZ b q h1) (k _ _ (by simpa using h2) e)
  · have : b ∉ [x, dx, rd, kd, wd] := fun q => by
      rw [hg0 b (by simp only [List.mem_cons, List.not_mem_nil, or_false] at q ⊢; rcases q with r | r | r | r | r <;> simp [r])] at h1; cases h1
    exact K' _ _ this (k _ _ (fun q => by rw [List.mem_singleton.mp q, fr_off F] at h1; cases h1) e)
theorem JRows.stab {h' : Heap} {wr : List Addr} (hJ : JRows w g L a x dx fd kd wd Z st₀ ops i h) (k : Kept wr h h') (hw : ∀ b ∈ wr, b ∈ Z ∧ b ≠ L ∧ g.get? b = none) (ex : ∀ b ∈ wr, ∃ o, h'.get? b = some o) : JRows w g L a x dx fd kd wd Z st₀ ops i h' := by
  obtain ⟨u1, u2, rd, kds, st, F, S, hrun, hg0⟩ := hJ
  refine ⟨u1, u2, rd, kds, st, Fr.after F k fun b hb => (hw b hb).2, S.keepZ (k.mono fun b hb => (hw b hb).1) fun z hz => ?_, hrun, hg0⟩
  by_cases hzw : z ∈ wr
  · exact ex z hzw
  · obtain ⟨kvs, kn, hkd, hka⟩ := S.kpt
    obtain ⟨o, ho⟩ := hka.there z (S.zs z hz)
    exact ⟨o, k _ _ hzw ho⟩
/-- a fresh reckoning -/
theorem self_init {h : Heap} {q : Nat → Int × Tok} {n : Nat} {t : Tok} {o1 o2 : Obj} {ad : Int} (hx : h.get? x = some (instObj 119 dx)) (hdx : h.get? dx = some (selfD q n ad t .none rd fd kd wd)) (hrd : h.get? rd = some o1) (hfd : h.get? fd = some o2) (lr : (rd == sysModules) = false) (lf : (fd == sysModules) = false)
    (d1 : o1.IsDictOf (iK w) []) (d2 : o2.IsDictOf (iK w) []) (hkd : h.get? kd = some (listOf #[] 0)) (hwd : h.get? wd = some (listOf #[] 0)) (hZ : ∀ z ∈ Z, ∃ o, h.get? z = some o) (nd : (x :: dx :: rd :: kd :: wd :: Z).Nodup) (hf : fd ∉ x :: dx :: rd :: kd :: wd :: Z) :
    SelfIn w Z h x dx rd fd kd wd Z (RS.init ad) :=
  have b0 : ∀ hid, Bears hid ([] : List (Int × Value)) (fun _ => none) := fun _ => ⟨(fun _ _ e => nomatch e), (fun _ _ => rfl), (fun _ e => nomatch e)⟩
  ⟨hx, ⟨q, n, t, .none, hdx, .nil⟩, ⟨o1, [], hrd, lr, d1, b0 _⟩, ⟨o2, [], hideAll_get _ hfd hf, lf, d2, b0 _⟩, ⟨[], 0, hkd, KeptAll.skips Z fun z hz => ⟨hz, hZ z hz⟩⟩, ⟨[], 0, hwd, .nil⟩, nd, fun _ q => q⟩
theorem rows_init {wr : List Addr} {h₁ : Heap} {m : Str → Option Value} {o1 o2 : Obj} {q1 q2 q3 q4 q5 q6 : Int × Tok} {n : Nat} {t : Tok} {ad : Int} (F : Fr g L h m)
    (N : News g L h [(wd, listOf #[] 0), (kd, listOf #[] 0), (fd, o2), (rd, o1), (x, instObj 119 dx), (dx, dictOf [ent (Str.ofString "address") q1 (.int ad t), ent (Str.ofString "cfa") q2 .none, ent (Str.ofString "rules") q3 (.ref rd), ent (Str.ofString "first") q4 (.ref fd), ent (Str.ofString "kept") q5 (.ref kd), ent (Str.ofString "rows") q6 (.ref wd)] n)])
    (up : ∀ b o, h.get? b = some o → h₁.get? b = some o) (iwr : ∀ b ∈ wr, h.get? b = none) (ith : ∀ b ∈ wr, ∃ o, h₁.get? b = some o) (nd : wr.Nodup) (ne : [x, dx, rd, kd, wd].Nodup) (nf : fd ∉ [x, dx, rd, kd, wd])
    (lr : (rd == sysModules) = false) (lf : (fd == sysModules) = false) (d1 : o1.IsDictOf (iK w) []) (d2 : o2.IsDictOf (iK w) []) :
    SelfIn w (L :: wr) h₁ x dx rd fd kd wd (L :: wr) (RS.init ad) ∧ ∀ b ∈ x :: dx :: rd :: kd :: wd :: (L :: wr), g.get? b = none := by
  have a1 := N (wd, _) (.head _)
  have a2 := N (kd, _) (.tail _ (.head _))
  have a3 := N (fd, _) (.tail _ (.tail _ (.head _)))
  have a4 := N (rd, _) (.tail _ (.tail _ (.tail _ (.head _))))
  have a5 := N (x, _) (.tail _ (.tail _ (.tail _ (.tail _ (.head _)))))
  have a6 := N (dx, _) (.tail _ (.tail _ (.tail _ (.tail _ (.tail _ (.head _))))))
  have off : ∀ b, (∃ o, h.get? b = some o) → b ∉ wr := fun b hb q => by obtain ⟨o, e⟩ := hb; rw [iwr b q] at e; cases e
  obtain ⟨oL, _, _, hL, _⟩ := F.ns
  refine ⟨self_init (q := fun i => match i with | 1 => q1 | 2 => q2 | 3 => q3 | 4 => q4 | 5 => q5 | _ => q6) (up _ _ a5.1) (up _ _ a6.1) (up _ _ a4.1) (up _ _ a3.1) lr lf d1 d2 (up _ _ a2.1) (up _ _ a1.1) ?_ ?_ ?_, ?_⟩
  · intro z hz
    rcases List.mem_cons.mp hz with rfl | hz
    · exact ⟨oL, up _ _ hL⟩
    · exact ith z hz
  · have e : x :: dx :: rd :: kd :: wd :: L :: wr = [x, dx, rd, kd, wd] ++ (L :: wr) := rfl
    rw [e, List.nodup_append]
    refine ⟨ne, List.nodup_cons.mpr ⟨off L ⟨oL, hL⟩, nd⟩, fun c hc d hd q => ?_⟩
    subst q
    have hc' : (∃ o, h.get? c = some o) ∧ c ≠ L := by
      simp only [List.mem_cons, List.not_mem_nil, or_false] at hc
      rcases hc with rfl | rfl | rfl | rfl | rfl
      · exact ⟨⟨_, a5.1⟩, a5.2.1⟩
      · exact ⟨⟨_, a6.1⟩, a6.2.1⟩
      · exact ⟨⟨_, a4.1⟩, a4.2.1⟩
      · exact ⟨⟨_, a2.1⟩, a2.2.1⟩
      · exact ⟨⟨_, a1.1⟩, a1.2.1⟩
    rcases List.mem_cons.mp hd with r | r
    · exact hc'.2 r
    · exact off c hc'.1 r
  · intro hm
    have e : x :: dx :: rd :: kd :: wd :: L :: wr = [x, dx, rd, kd, wd] ++ (L :: wr) := rfl
    rw [e] at hm
    rcases List.mem_append.mp hm with r | r
    · exact nf r
    · rcases List.mem_cons.mp r with r | r
      · exact a3.2.1 r
      · exact off fd ⟨_, a3.1⟩ r
  · intro b hb
    simp only [List.mem_cons] at hb
    rcases hb with rfl | rfl | rfl | rfl | rfl | rfl | hb
    · exact a5.2.2
    · exact a6.2.2
    · exact a4.2.2
    · exact a2.2.2
    · exact a1.2.2
    · exact fr_off F
    · cases q : g.get? b with
      | none => rfl
      | some o => have := F.keep _ _ q; rw [iwr b hb] at this; cases this
theorem kept3 {h₃ : Heap} {m m₃ : Str → Option Value} {led : List (Addr × Obj)} {y z : Addr} {oy oz : Obj} (F : Fr g L h m) (F₃ : Fr g L h₃ m₃) (N₃ : News g L h₃ led) (sub : ∀ p ∈ restOf g h L [y, dx, z], p ∈ led) (hy : h.get? y = some oy) (hz : h.get? z = some oz) (hy' : h₃.get? y = some oy) (hz' : h₃.get? z = some oz) : Kept [L, dx] h h₃ := fun b o hb e => by
  have k : Kept (L :: [y, dx, z]) h h₃ := rest_kept F F₃ N₃ sub
  by_cases h1 : b = y
  · subst h1; rw [hy] at e; cases e; exact hy'
  · by_cases h2 : b = z
    · subst h2; rw [hz] at e; cases e; exact hz'
    · refine k b o (fun q => ?_) e
      simp only [List.mem_cons, List.not_mem_nil, or_false] at q hb
      rcases q with r | r | r | r
      · exact hb (.inl r)
      · exact h1 r
      · exact hb (.inr r)
      · exact h2 r
theorem hid_up {h₃ : Heap} (k : Kept [L, x, dx, rd, wd] h h₃) (S : SelfIn w Z h x dx rd fd kd wd kds st) (hLZ : L ∈ Z) : ∀ b o, (hideAll h (x :: dx :: rd :: kd :: wd :: kds)).get? b = some o → h₃.get? b = some o := fun b o e => by
  refine k b o (fun q => ?_) (of_hideAll _ e)
  rw [hideAll_none _ (by
    simp only [List.mem_cons, List.not_mem_nil, or_false] at q ⊢
    rcases q with r | r | r | r | r
    · simp [r, S.zs L hLZ]
    · simp [r]
    · simp [r]
    · simp [r]
    · simp [r])] at e
  cases e
theorem none_up {s : Heap} {b : Addr} (up : ∀ b o, s.get? b = some o → g.get? b = some o) (e : g.get? b = none) : s.get? b = none := by
  cases q : s.get? b with
  | none => rfl
  | some o => rw [up _ _ q] at e; cases e
/-- a loop has ended: its iterator is let go -/
theorem JRows.over {h' : Heap} {wr : List Addr} {Z' : List Addr} (hJ : JRows w g L a x dx fd kd wd Z st₀ ops ops.length h) (k : Kept wr h h') (hw : ∀ b ∈ wr, b ∈ Z ∧ b ≠ L ∧ g.get? b = none) (hs : ∀ z ∈ Z', z ∈ Z ∧ z ∉ wr) :
    ∃ u1 u2 rd kds st, Fr g L h' (mRows x a u1 u2) ∧ SelfIn w Z' h' x dx rd fd kd wd kds st ∧ st₀.run ops = some st ∧ (∀ b ∈ x :: dx :: rd :: kd :: wd :: kds, g.get? b = none) := by
  obtain ⟨u1, u2, rd, kds, st, F, S, hrun, hg0⟩ := hJ
  rw [List.take_length] at hrun
  refine ⟨u1, u2, rd, _, st, Fr.after F k fun b hb => (hw b hb).2, S.dropZ (Z' := Z') (fun z hz => (hs z hz).1) (k.mono fun b hb => (hw b hb).1) fun z hz => ?_, hrun, fun b hb => hg0 b ?_⟩
  · obtain ⟨kvs, kn, hkd, hka⟩ := S.kpt
    obtain ⟨o, ho⟩ := hka.there z (S.zs z (hs z hz).1)
    exact ⟨o, k _ _ (hs z hz).2 ho⟩
  · simp only [List.mem_cons] at hb ⊢
    rcases hb with r | r | r | r | r | r
    · simp [r]
    · simp [r]
    · simp [r]
    · simp [r]
    · simp [r]
    · simp [(List.mem_filter.mp r).1]
/-- the first rules are set -/
theorem self_first {h₃ : Heap} {D : Addr} {o' : Obj} {rkvs : List (Int × Value)} {q : Nat → Int × Tok} {n : Nat} {t : Tok} {cv : Value} (S : SelfIn w Z h x dx rd fd kd wd kds st) (k : Kept [L, dx] h h₃) (hLZ : L ∈ Z) (hdx : h.get? dx = some (selfD q n st.addr t cv rd fd kd wd)) (hdx' : h₃.get? dx = some (selfD q n st.addr t cv rd D kd wd))
    (hL : ∃ o, h₃.get? L = some o) (hD : h₃.get? D = some o') (lD : (D == sysModules) = false) (hnD : h.get? D = none) (hrb : ∃ ro, h.get? rd = some ro ∧ ro.IsDictOf (iK w) rkvs) (iD : o'.IsDictOf (iK w) rkvs) (hB : Bears (hideAll h (x :: dx :: rd :: kd :: wd :: kds)) rkvs st.rules) :
    SelfIn w Z h₃ x dx rd D kd wd kds { st with first := st.rules } := by
  have off := S.offZ
  obtain ⟨obj, ⟨q', n', t', cv', hdx2, hcv⟩, ⟨ro, rkvs', hro, hlo, hrd, hrb'⟩, hfst, ⟨kvs, kn, hkd, hka⟩, ⟨rvs, rn, hwd, hra⟩, ap, hz⟩ := S
  have ecv : cv' = cv := by
    have e2 := congrArg (fun o : Option Obj => match o with | some x => (match x.data with | .dict es _ => es[1]? | _ => (none : Option DictEntry)) | none => (none : Option DictEntry)) (hdx.symm.trans hdx2)
    have e3 : (some (ent (Str.ofString "cfa") (q 2) cv) : Option DictEntry) = some (ent (Str.ofString "cfa") (q' 2) cv') := e2
    exact (congrArg DictEntry.val (Option.some.inj e3)).symm
  subst ecv
  have hb : ∀ b : Addr, b ∈ [L, dx] → b ∈ x :: dx :: rd :: kd :: wd :: kds := fun b hb => by
    rcases List.mem_cons.mp hb with r | r
    · rw [r]; simp [hz L hLZ]
    · rw [List.mem_singleton.mp r]; simp
  have ne : ∀ b, b ∈ [x, rd, kd, wd] → b ∉ [L, dx] := fun b hb' hm => by
    rcases List.mem_cons.mp hm with r | r
    · refine off b ?_ (r ▸ hLZ)
      simp only [List.mem_cons, List.not_mem_nil, or_false] at hb' ⊢
      rcases hb' with r | r | r | r <;> simp [r]
    · have r' := List.mem_singleton.mp r
      subst r'
      simp only [List.nodup_cons, List.mem_cons, not_or] at ap
      simp only [List.mem_cons, List.not_mem_nil, or_false] at hb'
      rcases hb' with r | r | r | r
      · exact ap.1.1 r.symm
      · exact ap.2.1.1 r
      · exact ap.2.1.2.1 r
      · exact ap.2.1.2.2.1 r
  have up : ∀ b o, (hideAll h (x :: dx :: rd :: kd :: wd :: kds)).get? b = some o → (hideAll h₃ (x :: dx :: rd :: kd :: wd :: kds)).get? b = some o :=
    hide_mono fun b o e hn => ⟨k b o (fun q => hn (hb b q)) e, hn⟩
  have Dn : D ∉ x :: dx :: rd :: kd :: wd :: kds := fun hm => by
    simp only [List.mem_cons] at hm
    rcases hm with rfl | rfl | rfl | rfl | rfl | hm
    · rw [obj] at hnD; cases hnD
    · rw [hdx] at hnD; cases hnD
    · rw [hro] at hnD; cases hnD
    · rw [hkd] at hnD; cases hnD
    · rw [hwd] at hnD; cases hnD
    · obtain ⟨o, e⟩ := hka.there D hm; rw [e] at hnD; cases hnD
  refine ⟨k _ _ (ne x (by simp)) obj, ⟨q, n, t, cv', hdx', hcv.keeps up⟩, ⟨ro, rkvs', k _ _ (ne rd (by simp)) hro, hlo, hrd, hrb'.keeps up⟩, ⟨o', rkvs, hideAll_get _ hD Dn, lD, iD, hB.keeps up⟩,
    ⟨kvs, kn, k _ _ (ne kd (by simp)) hkd, hka.impZ (fun _ q => q) up (fun d hd hn o e => ⟨k _ _ (fun q => ?_) e, hn⟩) fun z hzz => ?_⟩, ⟨rvs, rn, k _ _ (ne wd (by simp)) hwd, hra.imp fun _ _ r => r.keeps up⟩, ap, hz⟩
  · rcases List.mem_cons.mp q with r | r
    · exact hn (r ▸ hLZ)
    · simp only [List.nodup_cons, List.mem_cons, not_or] at ap
      exact ap.2.1.2.2.2 (List.mem_singleton.mp r ▸ hd)
  · obtain ⟨o, e⟩ := hka.there z (hz z hzz)
    by_cases hzL : z = L
    · exact hzL ▸ hL
    · exact ⟨o, k _ _ (fun q => by
        rcases List.mem_cons.mp q with r | r
        · exact hzL r
        · exact off dx (by simp) (List.mem_singleton.mp r ▸ hzz)) e⟩
end
theorem lines_R0 : True := by
  k_with_none
  (k_with "execs cons" => (k_here; first | ((fail_if_success (fail_if_success k_gentoks)); (refine tok_letter ?_); intro tk) | ((fail_if_success (with_reducible show wpAny _ _ _ (Behind _) _ _)); (with_reducible refine Q_letter ?_); intro Q9 hQ9) | (with_reducible refine execs_one ?_) | (with_reducible refine execs_cons_L ?_; intro Q9 hQ9)))
  (k_with "Behind" => ((rename (∀ f s', _ → Behind _ f s') => hB9); first | ((with_reducible refine hB9 _ _ ?_); (try dsimp only)) | (clear hB9; k_extra "Behind")))
  (k_with "BehindE" => ((rename (∀ e s', _ → BehindE _ e s') => hB9); first | ((with_reducible refine hB9 _ _ ?_); (try dsimp only)) | (clear hB9; k_extra "BehindE")))
  (k_with "m letter" => (first | (with_reducible show wpAny _ _ _ (Behind _) (BehindE _) _) | (with_reducible show wpAny _ _ _ _ (BehindE _) _; refine Q_letter ?_; intro Q9 hQ9) | (with_reducible refine QE_letter (by passes_own) ?_; intro Q9 E9 hQ9 hE9 hP9) | (refine Q_letter ?_; intro Q9 hQ9)))
  (k_with "setItem ref int" => (k_here; (with_reducible show wpAny _ _ (setItem (Value.ref _) (Value.int _ _) _) _ _ _); k_dflt (refine' rset_K ?FzR01 ?NzR01 ?UzR01 ?dzR01 ?zzR01 ?_; (case FzR01 => k_asm); (case NzR01 => k_asm); (case UzR01 => k_updF); (case dzR01 => assumption); (case zzR01 => ktr_units); k_whole); intro _ _ _ _ _))
  (k_with "call builtin:dict.pop" => (k_here; k_dflt (first | (refine' rpop_none ?NzR02 ?mzR02 ?lzR02 ?dzR02 ?vzR02 ?_; (case NzR02 => k_asm); (case mzR02 => k_mem); (case lzR02 => assumption); (case dzR02 => assumption); (case vzR02 => assumption); k_whole) | (refine' rpop_some ?FzR02 ?NzR02 ?UzR02 ?dzR02 ?vzR02 ?zzR02 ?_; (case FzR02 => k_asm); (case NzR02 => k_asm); (case UzR02 => k_updF); (case dzR02 => assumption); (case vzR02 => assumption); (case zzR02 => ktr_units); k_whole; intro _ _ _ _ _))))
  (k_with "compareOp In int ref" => (k_here; k_dflt (first | (refine' rin_none ?ezR03 ?lzR03 ?dzR03 ?vzR03 ?_; (case ezR03 => ktr_unf); (case lzR03 => assumption); (case dzR03 => assumption); (case vzR03 => assumption); k_whole) | (refine' rin_some ?ezR03 ?lzR03 ?dzR03 ?vzR03 ?_; (case ezR03 => ktr_unf); (case lzR03 => assumption); (case dzR03 => assumption); (case vzR03 => assumption); k_whole))))
  (k_with "subscriptTail" => (k_here; (with_reducible show wpAny _ _ (subscriptTail _ _ (Value.ref _) (Value.int _ _)) _ _ _); k_dflt (refine' ritem_K ?ezR04 ?dzR04 ?vzR04 ?_ (by with_unfolding_all rfl) (by intro _; with_unfolding_all rfl); (case ezR04 => ktr_unf); (case dzR04 => assumption); (case vzR04 => assumption); k_whole)))
  (k_with "call type:dict" => (k_here; (with_reducible show wpAny _ _ (call (Value.type "dict") [Value.ref _]) _ _ _); k_dflt (refine' rcopy_K ?FzR05 ?NzR05 ?bzR05 ?ezR05 ?lzR05 ?dzR05 ?zzR05 ?_; (case FzR05 => k_asm); (case NzR05 => k_asm); (case bzR05 => exact Top.nolimit (by assumption)); (case ezR05 => ktr_unf); (case lzR05 => assumption); (case dzR05 => assumption); (case zzR05 => ktr_units); k_whole); intro _ _ _ _ _ _ _ l9 _; (try k_lt l9)))
  (k_with "m k_lt" => (intro hlt9; replace hlt9 := allLt_of hlt9; dsimp only [AllLt] at hlt9; revert hlt9))
  (k_with "m k_ne" => ((refine neN ?_; (try dsimp only); first | (with_reducible assumption) | (with_reducible exact Ne.symm (by assumption)) | omega)))
  (k_with "m k_inst" => (exact inst_base (by with_reducible assumption) (by with_reducible assumption) (by with_reducible assumption)))
  (k_with "m k_room" => (((try simp only [depth_under_make, depth_under_kw, depth_in1, depth_deeper, depth_caller]); (try dsimp only [arT]); omega)))
  (k_with "m ktr_unf" => (first | exact News.get (by k_asm) (by k_mem) | exact get1 (by assumption) (by assumption) | exact get2 (by assumption) (by assumption) (by assumption) | exact get3 (by assumption) (by assumption) (by assumption) (by assumption)))
  (k_with "m ktr_units" => ((rw [sizeLine_eq]; first | omega | (refine Nat.le_trans (len_without (by assumption)) ?_; decide))))
  (k_with "m k_handed" => (assumption))
  trivial

set_option maxHeartbeats 16000000 in
theorem reck_K {w : World} {loose : List Str} {mean : ExcName → Option Value} {mg mb : Str → Option Value} {A₀ : Around} {dp un : Nat} {gd : Option (List Code)} {nm : Str} {ns : List (Str × NameKind)} {mo : _} {b1 b2 : Bool} {af : Addr} {cd : Value} {outer : List Env} {base h₀ : Heap} {L : Addr} {m : Str → Option Value} {s : Shared} {Q E : Value → Shared → Prop} {ad : Int} {t : Tok}
    (B : Below A₀ base outer h₀) (F : Fr h₀ L s.heap m) (X : (hd.heap_1 w.params).In h₀) (T : Top topProg loose mean mg mb h₀) (hroom : dp + 4 < recursionLimit)
    (N : News h₀ L s.heap [])
    (hq : ∀ x dx rd fd kd wd o1 o2 q1 q2 q3 q4 q5 q6 n t h' tk', Fr h₀ L h' m → News h₀ L h' [(wd, listOf #[] 0), (kd, listOf #[] 0), (fd, o2), (rd, o1), (x, instObj 119 dx), (dx, dictOf [ent (Str.ofString "address") q1 (.int ad t), ent (Str.ofString "cfa") q2 .none, ent (Str.ofString "rules") q3 (.ref rd), ent (Str.ofString "first") q4 (.ref fd), ent (Str.ofString "kept") q5 (.ref kd), ent (Str.ofString "rows") q6 (.ref wd)] n)] →
      [x, dx, rd, kd, wd].Nodup → fd ∉ [x, dx, rd, kd, wd] → (rd == sysModules) = false → (fd == sysModules) = false → o1.IsDictOf (iK w) [] → o2.IsDictOf (iK w) [] → Q (.ref x) { s with heap := h', toks := tk' }) :
    wpAny (model PySem.Challenge.rw_on0310_01.row.prog w) (arT dp un gd (envOf nm { kind := .function, names := ns, isGenerator := b1, isCoroutine := b2, more := mo } L af cd) outer) (call (.ref 119) [.int ad t]) Q E s := by
  revert X; k_fill; intro X
  ((try k_extra "m letter"); w_strict k_steps)
  (try k_unfold)
  (try dsimp only)
  (with_reducible rename Fr _ _ _ _ => kF)
  (with_reducible rename News _ _ _ _ => kN)
  refine hq _ _ _ _ _ _ _ _ (_, _) (_, _) (_, _) (_, _) (_, _) (_, _) _ _ _ _ kF kN ?_ ?_ (by assumption) (by assumption) (by assumption) (by assumption)
  · simp only [List.nodup_cons, List.mem_cons, List.not_mem_nil, or_false, not_or, not_false_eq_true, List.nodup_nil, and_true]
    (repeat' apply And.intro)
    all_goals (refine neN ?_; omega)
  · simp only [List.mem_cons, List.not_mem_nil, or_false, not_or]
    (repeat' apply And.intro)
    all_goals (refine neN ?_; omega)
noncomputable def Up (h h' : Heap) : Prop := ∀ b o, h.get? b = some o → h'.get? b = some o
theorem Up.refl (h : Heap) : Up h h := fun _ _ e => e
theorem Up.trans {h h' h'' : Heap} (x : Up h h') (y : Up h' h'') : Up h h'' := fun b o e => y b o (x b o e)
/-- what stood unhidden stands unhidden -/
theorem hide_step {h h' : Heap} {as Z Z' : List Addr} (k : Kept as h h') (ha : ∀ a ∈ as, a ∈ Z) (hz : ∀ a ∈ Z', a ∈ Z ∨ h.get? a = none) : Up (hideAll h Z) (hideAll h' Z') :=
  hide_mono fun b o e hb => ⟨k b o (fun q => hb (ha b q)) e, fun q => (hz b q).elim hb fun n => by rw [n] at e; cases e⟩
theorem hide_out {h : Heap} {Z : List Addr} : Up (hideAll h Z) h := fun _ _ e => of_hideAll _ e
theorem hide_in {g h : Heap} {Z : List Addr} (k : Up g h) (hz : ∀ a ∈ Z, g.get? a = none) : Up g (hideAll h Z) := fun b o e => hideAll_get _ (k b o e) fun q => by rw [hz b q] at e; cases e
theorem up_none {h h' : Heap} {b : Addr} (k : Up h h') (e : h'.get? b = none) : h.get? b = none := by
  cases q : h.get? b with
  | none => rfl
  | some o => rw [k _ _ q] at e; cases e
theorem fr_there {g h : Heap} {L : Addr} {m : Str → Option Value} (F : Fr g L h m) : ∃ o, h.get? L = some o := let ⟨o, _, _, e, _⟩ := F.ns; ⟨o, e⟩
theorem ns_there {h : Heap} {C : Addr} {m : Str → Option Value} (x : h.Ns C m) : ∃ o, h.get? C = some o := let ⟨o, _, _, e, _⟩ := x; ⟨o, e⟩
theorem fr_map {g h : Heap} {L : Addr} {m m' : Str → Option Value} (F : Fr g L h m) (e : ∀ y, m y = m' y) : Fr g L h m' := by
  have : m = m' := funext e
  exact this ▸ F
theorem News.isList {g h : Heap} {L a : Addr} {news : List (Addr × Obj)} {vs : List Value} {n : Nat} (N : News g L h news) (hm : (a, listOf vs.toArray n) ∈ news) : h.IsList a vs.toArray := ⟨_, (N _ hm).1, rfl, n, rfl⟩
theorem All2.up {α : Type} {P : Heap → Value → α → Prop} (hP : ∀ h h' v a, Up h h' → P h v a → P h' v a) {h h' : Heap} (k : Up h h') {vs : List Value} {l : List α} (x : All2 (P h) vs l) : All2 (P h') vs l := x.imp fun _ _ r => hP _ _ _ _ k r
theorem ops_up {h h' : Heap} (k : Up h h') {vs : List Value} {l : List Op} (x : All2 (OpIn h) vs l) : All2 (OpIn h') vs l := x.imp fun _ _ r => r.up k

theorem led1 {g h : Heap} {L a : Addr} {oa : Obj} (e1 : h.get? a = some oa) (n1 : a ≠ L) (g1 : g.get? a = none) : ∃ own, own = restOf g h L [a] ∧ OwnOff own [a] ∧ News g L h ((a, oa) :: own) := by
  refine ⟨_, rfl, rest_off, fun p hp => ?_⟩
  rcases List.mem_cons.mp hp with rfl | hp
  · exact ⟨e1, n1, g1⟩
  · obtain ⟨h1, h2, _, h4⟩ := mem_restOf.mp hp
    exact ⟨h1, h2, h4⟩
theorem led2 {g h : Heap} {L a b : Addr} {oa ob : Obj} (e1 : h.get? a = some oa) (n1 : a ≠ L) (g1 : g.get? a = none) (e2 : h.get? b = some ob) (n2 : b ≠ L) (g2 : g.get? b = none) : ∃ own, own = restOf g h L [a, b] ∧ OwnOff own [a, b] ∧ News g L h ((a, oa) :: (b, ob) :: own) := by
  refine ⟨_, rfl, rest_off, fun p hp => ?_⟩
  rcases List.mem_cons.mp hp with rfl | hp
  · exact ⟨e1, n1, g1⟩
  · rcases List.mem_cons.mp hp with rfl | hp
    · exact ⟨e2, n2, g2⟩
    · obtain ⟨h1, h2, _, h4⟩ := mem_restOf.mp hp
      exact ⟨h1, h2, h4⟩
theorem ns_notTup {g h : Heap} {L : Addr} {m : Str → Option Value} (F : Fr g L h m) : ∀ vs n, h.get? L ≠ some (tupOb vs n) := fun vs n e => by
  obtain ⟨o, es, ep, e1, e2, _⟩ := F.ns
  rw [e] at e1
  cases e1
  cases e2
theorem ns_ne_tup {g h : Heap} {L b : Addr} {m : Str → Option Value} {items : Array Value} (F : Fr g L h m) (ht : IsTup h b items) : b ≠ L := fun q => by
  subst q
  obtain ⟨o, es, ep, e1, e2, _⟩ := F.ns
  obtain ⟨o', e3, _, n, e4⟩ := ht
  rw [e3] at e1
  cases e1
  rw [e4] at e2
  cases e2
theorem tup_rest {g h h9 : Heap} {L b : Addr} {m m0 : Str → Option Value} {own led : List (Addr × Obj)} {items : Array Value} (F : Fr g L h9 m) (N : News g L h9 led) (F0 : Fr g L h m0 ∧ True) (hown : restOf g h L [] = own) (ht : IsTup h b items) (sub : ∀ p ∈ own, p ∈ led) : IsTup h9 b items := by
  have k : Kept [L] h h9 := rest_kept F0.1 F N (fun p hp => sub p (hown ▸ hp))
  have hne := ns_ne_tup F0.1 ht
  obtain ⟨o, e, r⟩ := ht
  exact ⟨o, k _ _ (by simpa using hne) e, r⟩
theorem op_keep {h h' : Heap} {as : List Addr} {v : Value} {op : Op} (k : Kept as h h') (hn : ∀ a ∈ as, ∀ vs n, h.get? a ≠ some (tupOb vs n)) (x : OpIn h v op) : OpIn h' v op := by
  obtain ⟨a, b, t, n, q, vs, rfl, h1, h2, h3⟩ := x
  exact ⟨a, b, t, n, q, vs, rfl, k _ _ (fun z => hn _ z _ _ h1) h1, k _ _ (fun z => hn _ z _ _ h2) h2, h3⟩
theorem list_notTup {h : Heap} {a : Addr} {xs : Array Value} {n : Nat} (e : h.get? a = some (listOf xs n)) : ∀ ws k, h.get? a ≠ some (tupOb ws k) := fun ws k q => by
  rw [e] at q
  have := congrArg (fun o : Option Obj => o.map (·.cls)) q
  simp at this
theorem cell_notTup {h : Heap} {a : Addr} {o : Obj} {v : Option Value} (e : h.get? a = some o) (hd : o.data = .cell v) : ∀ ws k, h.get? a ≠ some (tupOb ws k) := fun ws k q => by
  rw [e] at q
  cases q
  cases hd
theorem dict_notTup {h : Heap} {a : Addr} {o : Obj} {prog : Program} {w : World} {kvs : List (Int × Value)} (e : h.get? a = some o) (hd : o.IsDictOf (intKind prog w) kvs) : ∀ ws k, h.get? a ≠ some (tupOb ws k) := fun ws k q => by
  rw [e] at q
  cases q
  obtain ⟨_, _, _, h1, _⟩ := hd
  cases h1
/-- the lines that stand: what lies between a remembered state and its return is cut out -/
noncomputable def linesStep (s : List Op × List Nat) : Op → Option (List Op × List Nat)
  | .remember => some (s.1, s.2 ++ [s.1.length])
  | .back => match s.2.getLast? with
    | none => none
    | some n => some (s.1.take n, s.2.dropLast)
  | op => some (s.1 ++ [op], s.2)
noncomputable def linesRun (s : List Op × List Nat) : List Op → Option (List Op × List Nat)
  | [] => some s
  | op :: r => match linesStep s op with
    | none => none
    | some s' => linesRun s' r
noncomputable def lawLines (ops : List Op) : Option (List Op) := (linesRun ([], []) ops).map (·.1)
theorem linesRun_append (s : List Op × List Nat) (l r : List Op) : linesRun s (l ++ r) = (linesRun s l).bind fun s' => linesRun s' r := by
  induction l generalizing s with
  | nil => rfl
  | cons op l ih =>
    rw [List.cons_append, linesRun, linesRun]
    cases linesStep s op with
    | none => rfl
    | some s' => exact ih s'
theorem linesRun_take {s s' : List Op × List Nat} {l : List Op} {i : Nat} {op : Op} (hi : l[i]? = some op) (h : linesRun s (l.take i) = some s') : linesRun s (l.take (i + 1)) = linesStep s' op := by
  rw [List.take_add_one, hi, linesRun_append, h]
  show (Option.some s').bind _ = _
  simp only [Option.bind_some, Option.toList, linesRun]
  cases linesStep s' op <;> rfl
theorem linesRun_none {s s' : List Op × List Nat} {l : List Op} {i : Nat} {op : Op} (hi : l[i]? = some op) (h : linesRun s (l.take i) = some s') (hn : linesStep s' op = none) : linesRun s l = none := by
  have e : l = l.take (i + 1) ++ l.drop (i + 1) := (List.take_append_drop _ _).symm
  rw [e, linesRun_append, linesRun_take hi h, hn]; rfl
theorem lineStep_few {s s' : List Op × List Nat} {op : Op} {n : Nat} (h : linesStep s op = some s') (hn : s.1.length ≤ n ∧ s.2.length ≤ n) : s'.1.length ≤ n + 1 ∧ s'.2.length ≤ n + 1 := by
  have base : s.1.length ≤ n + 1 ∧ s.2.length ≤ n + 1 := ⟨Nat.le_succ_of_le hn.1, Nat.le_succ_of_le hn.2⟩
  have line : ∀ op : Op, (s.1 ++ [op]).length ≤ n + 1 := fun op => by rw [List.length_append]; exact Nat.succ_le_succ hn.1
  refine all_of (P := fun s' : List Op × List Nat => s'.1.length ≤ n + 1 ∧ s'.2.length ≤ n + 1) ?_ h
  clear h
  cases op with
  | remember => exact ⟨base.1, by rw [List.length_append]; exact Nat.succ_le_succ hn.2⟩
  | back =>
    show Option.elim (match s.2.getLast? with | none => none | some p => some _) True _
    cases s.2.getLast? with
    | none => exact True.intro
    | some p => exact ⟨by rw [List.length_take]; exact Nat.le_trans (Nat.min_le_right _ _) base.1, by rw [List.length_dropLast]; exact Nat.le_trans (Nat.sub_le _ _) base.2⟩
  | _ => exact ⟨line _, base.2⟩
theorem lines_few {s s' : List Op × List Nat} {l : List Op} {n : Nat} (h : linesRun s l = some s') (hn : s.1.length ≤ n ∧ s.2.length ≤ n) : s'.1.length ≤ n + l.length ∧ s'.2.length ≤ n + l.length := by
  induction l generalizing s n with
  | nil => cases h; exact hn
  | cons op l ih =>
    rw [linesRun] at h
    cases hs : linesStep s op with
    | none => rw [hs] at h; cases h
    | some s1 =>
      rw [hs] at h
      have := ih h (lineStep_few hs hn)
      rw [List.length_cons]; omega
theorem lines_len {ops l : List Op} (h : lawLines ops = some l) : l.length ≤ ops.length := by
  unfold lawLines at h
  cases e : linesRun ([], []) ops with
  | none => rw [e] at h; cases h
  | some s =>
    rw [e] at h
    cases h
    have := (lines_few (n := 0) e ⟨Nat.le_refl _, Nat.le_refl _⟩).1
    simpa using this
theorem name_remember {op : Op} : op.name = Str.ofString "remember_state" ↔ op = .remember := by cases op <;> simp [Op.name] <;> decide
theorem name_back {op : Op} : op.name = Str.ofString "restore_state" ↔ op = .back := by cases op <;> simp [Op.name] <;> decide
theorem linesStep_other {s : List Op × List Nat} {op : Op} (h1 : op ≠ .remember) (h2 : op ≠ .back) : linesStep s op = some (s.1 ++ [op], s.2) := by
  cases op <;> first | rfl | exact absurd rfl h1 | exact absurd rfl h2
theorem lines_R1 : True := by
  k_with_none
  (k_with "execs cons" => (k_here; first | ((fail_if_success (fail_if_success k_gentoks)); (refine tok_letter ?_); intro tk) | ((fail_if_success (with_reducible show wpAny _ _ _ (Behind _) _ _)); (with_reducible refine Q_letter ?_); intro Q9 hQ9) | (with_reducible refine execs_one ?_) | (with_reducible refine execs_cons_L ?_; intro Q9 hQ9)))
  (k_with "Behind" => ((rename (∀ f s', _ → Behind _ f s') => hB9); first | ((with_reducible refine hB9 _ _ ?_); (try dsimp only)) | (clear hB9; k_extra "Behind")))
  (k_with "BehindE" => ((rename (∀ e s', _ → BehindE _ e s') => hB9); first | ((with_reducible refine hB9 _ _ ?_); (try dsimp only)) | (clear hB9; k_extra "BehindE")))
  (k_with "m letter" => (first | (with_reducible show wpAny _ _ _ (Behind _) (BehindE _) _) | (with_reducible show wpAny _ _ _ _ (BehindE _) _; refine Q_letter ?_; intro Q9 hQ9) | (with_reducible refine QE_letter (by passes_own) ?_; intro Q9 E9 hQ9 hE9 hP9) | (refine Q_letter ?_; intro Q9 hQ9)))
  (k_with "call ref" => (k_here; (with_reducible show wpAny _ _ (call (Value.ref 44) [Value.str _ _]) _ _ _); k_dflt (refine' fault_call_K ?BzR11 ?FzR11 ?XzR11 ?TzR11 ?NzR11 ?AzR11 ?fzR11 ?kzR11 ?rzR11 ?_; (case BzR11 => k_asm); (case FzR11 => k_asm); (case XzR11 => k_asm); (case TzR11 => k_asm); (case NzR11 => k_asm); (case AzR11 => exact rfl); (case fzR11 => exact rfl); (case kzR11 => exact rfl); (case rzR11 => k_room); k_whole); intro _ _ _ _ _ _; (try dsimp only)))
  (k_with "exec Raise some none" => (k_here; k_dflt (refine raise44_exec rfl ?_)))
  (k_with "RaisableF" => ((rename MadeFault _ _ _ => hM9); obtain ⟨t9, dd9, he9⟩ := MadeFault.there hM9; refine ⟨_, _, _, rfl, faultCls (Frag.In.keeps (by k_asm) (Fr.keep (by k_asm))), he9, ?_⟩; clear he9))
  (k_with "leaving ref" => (k_here; (with_reducible show wpAny _ (Around.deeper _ (envOf _ _ _ _ _)) _ _ _ _); first | ((rename FaultOut _ _ _ _ _ => hR9); refine leave_faultOn (by assumption) (by assumption) hR9 ?_; intro h9 R9) | ((rename MadeFault _ _ _ => hM9); refine leave_fault (by assumption) hM9 (by assumption) ?_ rfl; intro _ _)))
  (k_with "setItem ref int" => (k_here; (with_reducible show wpAny _ _ (setItem (Value.ref _) (Value.int _ _) _) _ _ _); k_dflt (refine' rset_K ?FzR15 ?NzR15 ?UzR15 ?dzR15 ?zzR15 ?_; (case FzR15 => k_asm); (case NzR15 => k_asm); (case UzR15 => k_updF); (case dzR15 => assumption); (case zzR15 => ktr_units); k_whole); intro _ _ _ _ _))
  (k_with "call builtin:dict.pop" => (k_here; k_dflt (first | (refine' rpop_none ?NzR16 ?mzR16 ?lzR16 ?dzR16 ?vzR16 ?_; (case NzR16 => k_asm); (case mzR16 => k_mem); (case lzR16 => assumption); (case dzR16 => assumption); (case vzR16 => assumption); k_whole) | (refine' rpop_some ?FzR16 ?NzR16 ?UzR16 ?dzR16 ?vzR16 ?zzR16 ?_; (case FzR16 => k_asm); (case NzR16 => k_asm); (case UzR16 => k_updF); (case dzR16 => assumption); (case vzR16 => assumption); (case zzR16 => ktr_units); k_whole; intro _ _ _ _ _))))
  (k_with "compareOp In int ref" => (k_here; k_dflt (first | (refine' rin_none ?ezR17 ?lzR17 ?dzR17 ?vzR17 ?_; (case ezR17 => ktr_unf); (case lzR17 => assumption); (case dzR17 => assumption); (case vzR17 => assumption); k_whole) | (refine' rin_some ?ezR17 ?lzR17 ?dzR17 ?vzR17 ?_; (case ezR17 => ktr_unf); (case lzR17 => assumption); (case dzR17 => assumption); (case vzR17 => assumption); k_whole))))
  (k_with "subscriptTail" => (k_here; (with_reducible show wpAny _ _ (subscriptTail _ _ (Value.ref _) (Value.int _ _)) _ _ _); k_dflt (refine' ritem_K ?ezR18 ?dzR18 ?vzR18 ?_ (by with_unfolding_all rfl) (by intro _; with_unfolding_all rfl); (case ezR18 => ktr_unf); (case dzR18 => assumption); (case vzR18 => assumption); k_whole)))
  (k_with "call type:dict" => (k_here; (with_reducible show wpAny _ _ (call (Value.type "dict") [Value.ref _]) _ _ _); k_dflt (refine' rcopy_K ?FzR19 ?NzR19 ?bzR19 ?ezR19 ?lzR19 ?dzR19 ?zzR19 ?_; (case FzR19 => k_asm); (case NzR19 => k_asm); (case bzR19 => exact Top.nolimit (by assumption)); (case ezR19 => ktr_unf); (case lzR19 => assumption); (case dzR19 => assumption); (case zzR19 => ktr_units); k_whole); intro _ _ _ _ _ _ _ l9 _; (try k_lt l9)))
  (k_with "subscriptTail" => (k_here; (with_reducible show wpAny _ _ (subscriptTail _ _ (Value.ref _) (Value.int 0 _)) _ _ _); k_dflt (refine' tup_item0 ?tzR110 ?_ (by with_unfolding_all rfl) (by intro _; with_unfolding_all rfl); (case tzR110 => ktr_rel); k_whole)))
  (k_with "subscriptTail" => (k_here; (with_reducible show wpAny _ _ (subscriptTail _ _ (Value.ref _) (Value.int 1 _)) _ _ _); k_dflt (refine' tup_item1 ?tzR111 ?_ (by with_unfolding_all rfl) (by intro _; with_unfolding_all rfl); (case tzR111 => ktr_rel); k_whole)))
  (k_with "call builtin:list.append" => (k_here; (with_reducible show wpAny _ _ (call (Value.builtin _) [Value.ref _, _]) _ _ _); k_dflt (refine' append_K ?k1zR112 ?k2zR112 ?k3zR112 ?_ ?zzR112; (case k1zR112 => k_asm); (case k2zR112 => k_asm); (case k3zR112 => k_upd); (case zzR112 => ktr_room); k_whole); intro _ _ _; (try k_sweep)))
  (k_with "compareOp Eq ref ref" => (k_here; (with_reducible show wpAny _ _ (compareOp CmpOp.Eq (Value.ref _) (Value.ref _)) _ _ _); k_dflt (first | refine eq_nilT (by is_list) (by is_list) (by units_room) ?_ | refine eq_nilF (vs := _) (v := _) (by is_list) (by is_list) (by units_room) ?_)))
  (k_with "call builtin:list.pop" => (k_here; (with_reducible show wpAny _ _ (call (Value.builtin _) [Value.ref _]) _ _ _); k_dflt (refine' lpop_K ?FzR114 ?NzR114 ?UzR114 ?zzR114 ?_; (case FzR114 => k_asm); (case NzR114 => k_asm); (case UzR114 => k_upd); (case zzR114 => assumption)); (intro _ _ N'; (try dsimp only [List.nil_append, List.cons_append] at N'))))
  (k_with "call ref" => (k_here; (with_reducible show wpAny _ _ (call (Value.ref 116) [Value.ref _, Value.str _ _, Value.ref _]) _ _ _); k_dflt (refine' do_call ?BzR115 ?FzR115 ?XzR115 ?TzR115 ?fzR115 ?kzR115 ?rzR115 ?uzR115 ?_; (case BzR115 => k_asm); (case FzR115 => k_asm); (case XzR115 => k_asm); (case TzR115 => k_asm); (case fzR115 => exact rfl); (case kzR115 => exact rfl); (case rzR115 => k_room); (case uzR115 => units_room); k_whole)))
  (k_with "exec For Tuple Attribute cons nil" => (k_here; (with_unfolding_all refine' For_H ?_ (by intro _; rfl) (by passes_own); k_whole)))
  (k_with "call ref" => (k_here; (with_reducible show wpAny _ _ (call (Value.ref 119) [Value.int _ _]) _ _ _); k_dflt (refine' reck_K ?BzR117 ?FzR117 ?XzR117 ?TzR117 ?rzR117 ?NzR117 ?_; (case BzR117 => k_asm); (case FzR117 => k_asm); (case XzR117 => k_asm); (case TzR117 => k_asm); (case rzR117 => k_room); (case NzR117 => k_asm); k_whole); intro _ _ _ _ _ _ _ _ _ _ _ _ _ _ _ _ _ _ _ _ _ _ _ _ _ _; (try dsimp only)))
  (k_with "binaryOp Add ref ref" => (k_here; (with_reducible show wpAny _ _ (binaryOp _ (Value.ref _) (Value.ref _)) _ _ _); k_dflt (refine' cat_K ?FzR118 ?NzR118 ?azR118 ?bzR118 ?zzR118 ?_; (case FzR118 => k_asm); (case NzR118 => k_asm); (case azR118 => exact News.isList (by k_asm) (by k_mem)); (case bzR118 => exact News.isList (by k_asm) (by k_mem)); (case zzR118 => (rw [sizeLine_eq]; simp only [List.length_cons, List.length_nil]; omega)); k_whole); intro _ _ _ _ l9 _; (try k_lt l9)))
  (k_with "m k_lt" => (intro hlt9; replace hlt9 := allLt_of hlt9; dsimp only [AllLt] at hlt9; revert hlt9))
  (k_with "m k_ne" => ((refine neN ?_; (try dsimp only); first | (with_reducible assumption) | (with_reducible exact Ne.symm (by assumption)) | omega)))
  (k_with "m k_inst" => (exact inst_base (by with_reducible assumption) (by with_reducible assumption) (by with_reducible assumption)))
  (k_with "m k_room" => (((try simp only [depth_under_make, depth_under_kw, depth_in1, depth_deeper, depth_caller]); (try dsimp only [arT]); omega)))
  (k_with "m ktr_unf" => (first | exact News.get (by k_asm) (by k_mem) | exact get1 (by assumption) (by assumption) | exact get2 (by assumption) (by assumption) (by assumption) | exact get3 (by assumption) (by assumption) (by assumption) (by assumption)))
  (k_with "m ktr_units" => ((rw [sizeLine_eq]; first | omega | (refine Nat.le_trans (len_without (by assumption)) ?_; decide))))
  (k_with "m ktr_rel" => (first | exact Fr.tup (by assumption) (by assumption) | exact tup2 (by assumption) (by assumption) (by assumption) | exact tup3 (by assumption) (by assumption) (by assumption) (by assumption) | exact News.isTup (by k_asm) (by k_mem)))
  (k_with "m k_put" => (first | exact put_address | exact put_cfa | exact put_rules | exact put_first))
  (k_with "m k_handed" => (assumption))
  (k_with "m ktr_room" => ((rw [sizeLine_eq]; (try simp only [List.size_toArray, List.length_append, List.length_cons, List.length_nil]); omega)))
  (k_with "m units_room" => (((try simp only [units_in1, units_deeper, Around.mark_units, units_caller]); (try dsimp only [arT]); (have hcL9 := cLine_is); (try simp only [cLine] at *); omega)))
  trivial

theorem news_tail2 {g h : Heap} {L : Addr} {p q : Addr × Obj} {own : List (Addr × Obj)} (N : News g L h (p :: q :: own)) : News g L h own := fun r hr => N r (.tail _ (.tail _ hr))
noncomputable def DoCall (w : World) (h₀ : Heap) (L : Addr) (s : Shared) (x b : Addr) (nm : Str) (l : List Env) (Q E : Value → Shared → Prop) : Prop :=
  ∃ Z dx rd fd kd wd kds st op, nm = op.name ∧ DoHyp w Z h₀ L s.heap x dx rd fd kd wd kds st b op ∧ DoPost w Z s x dx rd fd kd wd kds st op Q ∧ DoFault s x dx rd kd wd l st op E
theorem do_call {w : World} {loose : List Str} {mean : ExcName → Option Value} {mg mb : Str → Option Value} {A₀ : Around} {dp un : Nat} {gd : Option (List Code)} {env : Env} {outer : List Env} {base h₀ : Heap} {L : Addr} {m : Str → Option Value} {s : Shared} {Q E : Value → Shared → Prop} {x b : Addr} {nm : Str} {tn : Tok}
    (B : Below A₀ base outer h₀) (F : Fr h₀ L s.heap m) (X : (hd.heap_1 w.params).In h₀) (T : Top topProg loose mean mg mb h₀)
    (hf : env.frame = some L) (hk : env.scope.kind = .function) (hroom : dp + 9 < recursionLimit) (hun : un + 100 < cLine)
    (h : DoCall w h₀ L s x b nm (env :: outer) Q E) :
    wpAny (model PySem.Challenge.rw_on0310_01.row.prog w) (arT dp un gd env outer) (call (.ref 116) [.ref x, .str nm tn, .ref b]) Q E s := by
  refine letter fun Qg hg => ?_
  obtain ⟨Z, dx, rd, fd, kd, wd, kds, st, op, rfl, H, hq, hE⟩ := h
  refine hg ?_
  clear hg
  exact do_any B F X T hf hk hroom hun H hq hE

theorem mRows_init {x a : Addr} {y : Str} : (if y = Str.ofString "reckoning" then some (Value.ref x) else List.lookup y [(Str.ofString "fde", Value.ref a)].reverse) = mRows x a none none y := by
  by_cases h1 : y = Str.ofString "args"
  · subst h1; rfl
  · by_cases h2 : y = Str.ofString "name"
    · subst h2; rfl
    · simp only [mRows, if_neg h1, if_neg h2]
      by_cases h3 : y = Str.ofString "reckoning"
      · rw [if_pos h3, if_pos h3]
      · rw [if_neg h3, if_neg h3]
        by_cases h4 : y = Str.ofString "fde"
        · subst h4; rfl
        · rw [if_neg h4]
          simp only [List.reverse_cons, List.reverse_nil, List.nil_append, List.lookup_cons, List.lookup_nil]
          rw [show (y == Str.ofString "fde") = false from by simpa using h4]

set_option maxHeartbeats 16000000 in
theorem rows_of_h {w : World} {loose : List Str} {mean : ExcName → Option Value} {mg mb : Str → Option Value} {A₀ : Around} {dp un : Nat} {gd : Option (List Code)} {env : Env} {outer : List Env} {base h₀ : Heap} {L : Addr} {m : Str → Option Value} {s : Shared} {Q E : Value → Shared → Prop} {a : Addr} {f : FDE}
    (B : Below A₀ base outer h₀) (F : Fr h₀ L s.heap m) (X : (hd.heap_1 w.params).In h₀) (T : Top topProg loose mean mg mb h₀)
    (hf : env.frame = some L) (hk : env.scope.kind = .function) (hroom : dp + 20 < recursionLimit) (hun : un + 200 < cLine) (hf' : FdeIn s.heap a f) (hok : ∀ op ∈ f.heads ++ f.ops, op.ok) (hlen : f.heads.length ≤ 100 ∧ f.ops.length ≤ 100)
    (hq : ∀ rows r vs n h' tk', f.rows = some rows → (∀ b o, s.heap.get? b = some o → h'.get? b = some o) → s.heap.get? r = none → h'.get? r = some (listOf vs.toArray n) → All2 (RowIn w h') vs rows → Q (.ref r) { s with heap := h', toks := tk' })
    (hE : ∀ h' tk' e, f.rows = none → FaultOut [] (env :: outer) s.heap e h' → E (.ref e) { s with heap := h', toks := tk' }) :
    wpAny (model PySem.Challenge.rw_on0310_01.row.prog w) (arT dp un gd env outer) (call (.ref 130) [.ref a]) Q E s := by
  revert X; k_fill; intro X
  have N : News h₀ L s.heap [] := fun p hp => by cases hp
  refine letter fun Qg hg => ?_
  obtain ⟨da, c, dc, hl, ol, q1, q2, q3, q4, p1, p2, p3, p4, n, m', nh, no, t1, t2, v1, v2, v3, hv, ov, g1, g2, g3, g4, g5, g6, g7, g8⟩ := hf'
  refine hg ?_
  clear hg
  refine wpAny_call ?_
  k_dflt (refine' enter (binds := [(Str.ofString "fde", .ref a)]) B F X T N rfl hf hk ?k6 ?k7 ?k8 ?k9 ?kB ?_ ?c2 ?c3 ?c4 ?c5; (case k6 => k_is); (case k7 => k_is); (case k8 => show dp < _; omega); (case k9 => exact BindsTo.of_eq rfl); (case c5 => decide); (case kB => exact locs rfl); (case c2 => exact rfl); (case c3 => exact rfl); (case c4 => exact rfl); k_whole; intro g L' h' hg hk₁ hL' F' N' B' X' T'; (try dsimp only); (try k_fold))

  have up : ∀ b o, s.heap.get? b = some o → g.get? b = some o := fun b o e => hg b o List.not_mem_nil e
  clear hg hk₁
  replace g1 := up _ _ g1
  replace g2 := up _ _ g2
  replace g3 := up _ _ g3
  replace g4 := up _ _ g4
  replace g5 := up _ _ g5
  replace g6 := up _ _ g6
  replace g7 := g7.imp fun _ _ r => r.up up
  replace g8 := g8.imp fun _ _ r => r.up up
  ((try k_extra "m letter"); w_strict k_steps)
  (with_reducible rename Fr _ _ _ _ => kF)
  (with_reducible rename News _ _ _ _ => kN)
  have hLg : g.get? L' = none := fr_off kF
  have bh : ∀ b, (∃ o, g.get? b = some o) → ∃ o, g.get? b = some o := fun _ e => e
  refine list_H rfl ⟨_, kF.keep _ _ g5, rfl, _, rfl⟩ ?_
  rintro fp wr h₁ jj1
  refine letter fun Qg hg => ?_
  obtain ⟨isrc, iwr, iup, ithere, ind⟩ := jj1
  refine hg ?_
  clear hg
  obtain ⟨S₁, hg₁⟩ := rows_init (q1 := (_, _)) (q2 := (_, _)) (q3 := (_, _)) (q4 := (_, _)) (q5 := (_, _)) (q6 := (_, _)) kF kN iup (fun b hb => (iwr b hb).2) (fun b hb => ithere b (iwr b hb).1) ind (by assumption) (by assumption) (by assumption) (by assumption) (by assumption) (by assumption)
  have F₁ := fr_map (Fr.keeps kF iup) (fun y => mRows_init)
  have gnone : ∀ b ∈ wr, b ≠ L' ∧ g.get? b = none := fun b hb => ⟨(fun e => by obtain ⟨oL, _, _, hL, _⟩ := kF.ns; rw [← e, (iwr b hb).2] at hL; cases hL), hg₁ b (by simp [hb])⟩
  have fpx : ∀ b ∈ fp, b ∈ L' :: wr ∧ b ≠ L' ∨ ∃ o, g.get? b = some o := fun b hb => by
    rcases isrc b hb with r | r
    · exact .inr ⟨_, List.mem_singleton.mp r ▸ g5⟩
    · exact .inl ⟨List.mem_cons_of_mem _ r, (gnone b r).1⟩
  clear kN kF
  refine ⟨JRows w g L' a _ _ _ _ _ (L' :: wr) (RS.init f.begin) f.heads, ⟨none, none, _, _, _, F₁, S₁, rfl, hg₁⟩, fun i h h' hJ k ex => hJ.stab k (fun b hb => ⟨List.mem_cons_of_mem _ hb, gnone b hb⟩) (fun b hb => ex b (iwr b hb).1), ?_, ?_⟩
  · intro i v h tk hi hvi hJ hex
    have hLZ : L' ∈ L' :: wr := List.mem_cons_self

    refine letter fun Qg hg => ?_
    obtain ⟨u1, u2, rd, kds, st, F, S, hrun, hg0⟩ := hJ
    refine hg ?_
    clear hg
    obtain ⟨op, hop, hv'⟩ := g7.get hvi
    refine letter fun Qg hg => ?_
    obtain ⟨aT, b, t, n9, k9, vs9, rfl, hT, hb, hi2⟩ := hv'
    refine hg ?_
    clear hg
    refine letter fun Qg hg => ?_
    obtain ⟨q, n', t', cv, hdx, hcv⟩ := S.dct
    refine hg ?_
    clear hg
    generalize hown : restOf g h L' [] = own
    have N := led_self S hLZ hg0 hdx own hown.symm
    have F₀ := And.intro F trivial
    have hT' := isTup_of (F.keep _ _ hT)
    dsimp only [selfD, ent] at N
    (try dsimp only [mRows] at F)
    ((try k_extra "m letter"); w_strict k_steps)
    (with_reducible rename Fr _ _ _ _ => kF)
    (with_reducible rename News _ _ _ _ => kN)
    have F₂ := fr_map kF (fun y => mRows_over)
    have kN := news_tail2 kN
    have sub : ∀ p ∈ restOf g h L' [], p ∈ own := fun p hp => hown ▸ hp
    have S₂ := self_call S F₀.1 F₂ kN sub hLZ
    have few := RS.run_few (n := 0) hrun ⟨Nat.le_refl _, Nat.le_refl _⟩
    rw [List.length_take] at few
    (try k_unfold)
    refine ⟨_, _, _, _, _, _, _, st, op, rfl, self_hyp S₂ hLZ hg0 F₂.keep hb hi2 (hok op (List.mem_append_left _ (List.mem_of_getElem? hop))) (by omega), ?_, ?_⟩
    · intro st' h' tk' rd' kds' hs S' K' hn
      obtain ⟨F', hJ'⟩ := self_end F₂ hLZ hg0 S₂ S' K' hn hrun hop hs
      have hfp' := self_fp F₀.1 F₂ kN sub S hLZ hg0 K' fpx
      clear kF kN
      ((try k_extra "m letter"); w_strict k_steps)
      exact ⟨h', _, rfl, hJ', hfp'⟩
    · intro h' tk' e hs hR
      have R9 := fault_base F₂ (own5_none hg0) hR
      (repeat k_extra "BehindE")
      (try k_unfold)
      refine leave_faultAt B' hLg R9 fun h9 R9 => ?_
      exact hE _ _ _ (by simp only [FDE.rows]; rw [RS.run_none hop hrun hs]) (R9.mono fun b o e _ => ⟨up _ _ e, List.not_mem_nil⟩)

  · intro h h' tk hJ k
    rw [g7.length] at hJ
    refine letter fun Qg hg => ?_
    obtain ⟨u1, u2, rd, kds, st, F, S, hrun, hg0⟩ := hJ.over k (Z' := [L']) (fun b hb => ⟨List.mem_cons_of_mem _ hb, gnone b hb⟩) (fun z hz => by rw [List.mem_singleton.mp hz]; exact ⟨List.mem_cons_self, fun q => (gnone _ q).1 rfl⟩)
    refine hg ?_
    clear hg
    clear hJ k S₁ F₁ hg₁
    have hrun0 := hrun
    have hLZ : L' ∈ [L'] := List.mem_cons_self
    refine letter fun Qg hg => ?_
    obtain ⟨q, n', t', cv, hdx, hcv⟩ := S.dct
    refine hg ?_
    clear hg
    refine letter fun Qg hg => ?_
    obtain ⟨ro, rkvs, hro, hlo, hrd, hrb⟩ := S.rls
    refine hg ?_
    clear hg
    have hlen4 : rkvs.length ≤ 4 := few_keys (isDict_nodup hrd) hrb.keys
    refine letter fun Qg hg => ?_
    obtain ⟨ne1, ne2, ne3, ne4, ne5, ne6, ne7, ne8, ne9, neA, nek⟩ := apart_ne S.apart
    refine hg ?_
    clear hg
    refine letter fun Qg hg => ?_
    obtain ⟨own, hown, hoff, N⟩ := led_self3 S hLZ hg0 hdx hro
    refine hg ?_
    clear hg
    have F₀ := And.intro F trivial
    dsimp only [selfD, ent] at N
    (try dsimp only [mRows] at F)
    (try k_fold)
    ((try k_extra "m letter"); w_strict k_steps)
    (with_reducible rename Fr _ _ _ _ => kF)
    (with_reducible rename News _ _ _ _ => kN)
    have hL3 := fr_there kF
    have hk3 := kept3 F₀.1 kF kN (fun p hp => .tail _ (.tail _ (.tail _ (.tail _ (hown ▸ hp))))) S.obj hro (kN _ (.tail _ (.head _))).1 (kN _ (.tail _ (.tail _ (.tail _ (.head _))))).1
    have S₃ := self_first (q := q) S hk3 hLZ hdx (kN _ (.tail _ (.tail _ (.head _)))).1 hL3 (kN _ (.head _)).1 (by assumption) (by assumption) ⟨ro, hro, hrd⟩ (by assumption) hrb
    clear hk3 F₀ N
    refine list_H rfl ⟨_, kF.keep _ _ g6, rfl, _, rfl⟩ ?_
    rintro fp wr h₁ jj2
    refine letter fun Qg hg => ?_
    obtain ⟨isrc, iwr, iup, ithere, ind⟩ := jj2
    refine hg ?_
    clear hg
    have S₄ := S₃.addZ iup (fun b hb => (iwr b hb).2) (fun b hb => ithere b (iwr b hb).1) ind
    have F₁ := Fr.keeps kF iup
    have gnone : ∀ b ∈ wr, b ≠ L' ∧ g.get? b = none := fun b hb => ⟨(fun e => by obtain ⟨oL, _, _, hL, _⟩ := kF.ns; rw [← e, (iwr b hb).2] at hL; cases hL), (by
      cases q : g.get? b with
      | none => rfl
      | some o => have := kF.keep _ _ q; rw [(iwr b hb).2] at this; cases this)⟩
    have fpx : ∀ b ∈ fp, b ∈ [L'] ++ wr ∧ b ≠ L' ∨ ∃ o, g.get? b = some o := fun b hb => by
      rcases isrc b hb with r | r
      · exact .inr ⟨_, List.mem_singleton.mp r ▸ g6⟩
      · exact .inl ⟨List.mem_append_right _ r, (gnone b r).1⟩
    have hg₁ : ∀ b ∈ _ :: _ :: _ :: _ :: _ :: (kds ++ wr), g.get? b = none := fun b hb => by
      rcases List.mem_append.mp (show b ∈ (_ :: _ :: _ :: _ :: _ :: kds) ++ wr from hb) with r | r
      · exact hg0 b r
      · exact (gnone b r).2
    have fewH := RS.run_few (n := 0) hrun ⟨Nat.le_refl _, Nat.le_refl _⟩
    have fewS : ({ st with first := st.rules } : RS).kept.length ≤ 100 ∧ ({ st with first := st.rules } : RS).rows.length ≤ 100 := ⟨by show st.kept.length ≤ 100; omega, by show st.rows.length ≤ 100; omega⟩
    clear kN kF hoff hown hdx hcv hrd hrun hg0
    refine ⟨JRows w g L' a _ _ _ _ _ ([L'] ++ wr) { st with first := st.rules } f.ops, ⟨u1, u2, _, _, _, F₁, S₄, rfl, hg₁⟩, fun i h h' hJ k ex => hJ.stab k (fun b hb => ⟨List.mem_append_right _ hb, gnone b hb⟩) (fun b hb => ex b (iwr b hb).1), ?_, ?_⟩
    · intro i v h tk hi hvi hJ hex
      have hLZ : L' ∈ [L'] ++ wr := List.mem_cons_self

      refine letter fun Qg hg => ?_
      obtain ⟨u1, u2, rd, kds, st, F, S, hrun, hg0⟩ := hJ
      refine hg ?_
      clear hg
      obtain ⟨op, hop, hv'⟩ := g8.get hvi
      refine letter fun Qg hg => ?_
      obtain ⟨aT, b, t, n9, k9, vs9, rfl, hT, hb, hi2⟩ := hv'
      refine hg ?_
      clear hg
      refine letter fun Qg hg => ?_
      obtain ⟨q, n', t', cv, hdx, hcv⟩ := S.dct
      refine hg ?_
      clear hg
      generalize hown : restOf g h L' [] = own
      have N := led_self S hLZ hg0 hdx own hown.symm
      have F₀ := And.intro F trivial
      have hT' := isTup_of (F.keep _ _ hT)
      dsimp only [selfD, ent] at N
      (try dsimp only [mRows] at F)
      ((try k_extra "m letter"); w_strict k_steps)
      (with_reducible rename Fr _ _ _ _ => kF)
      (with_reducible rename News _ _ _ _ => kN)
      have F₂ := fr_map kF (fun y => mRows_over)
      have kN := news_tail2 kN
      have sub : ∀ p ∈ restOf g h L' [], p ∈ own := fun p hp => hown ▸ hp
      have S₂ := self_call S F₀.1 F₂ kN sub hLZ
      have few := RS.run_few (n := 100) hrun fewS
      rw [List.length_take] at few
      (try k_unfold)
      refine ⟨_, _, _, _, _, _, _, st, op, rfl, self_hyp S₂ hLZ hg0 F₂.keep hb hi2 (hok op (List.mem_append_right _ (List.mem_of_getElem? hop))) (by omega), ?_, ?_⟩
      · intro st' h' tk' rd' kds' hs S' K' hn
        obtain ⟨F', hJ'⟩ := self_end F₂ hLZ hg0 S₂ S' K' hn hrun hop hs
        have hfp' := self_fp F₀.1 F₂ kN sub S hLZ hg0 K' fpx
        clear kF kN
        ((try k_extra "m letter"); w_strict k_steps)
        exact ⟨h', _, rfl, hJ', hfp'⟩
      · intro h' tk' e hs hR
        have R9 := fault_base F₂ (own5_none hg0) hR
        (repeat k_extra "BehindE")
        (try k_unfold)
        refine leave_faultAt B' hLg R9 fun h9 R9 => ?_
        exact hE _ _ _ (by simp only [FDE.rows, hrun0]; rw [RS.run_none hop hrun hs]) (R9.mono fun b o e _ => ⟨up _ _ e, List.not_mem_nil⟩)
  
    · intro h h' tk hJ k
      rw [g8.length] at hJ
      refine letter fun Qg hg => ?_
      obtain ⟨u3, u4, rd2, kds2, st2, F, S, hrun2, hg0⟩ := hJ.over k (Z' := [L']) (fun b hb => ⟨List.mem_append_right _ hb, gnone b hb⟩) (fun z hz => by rw [List.mem_singleton.mp hz]; exact ⟨List.mem_append_left _ List.mem_cons_self, fun q => (gnone _ q).1 rfl⟩)
      refine hg ?_
      clear hg
      clear hJ k S₄ S₃ F₁ hg₁
      refine letter fun Qg hg => ?_
      obtain ⟨q, n', t', cv, hdx, hcv⟩ := S.dct
      refine hg ?_
      clear hg
      refine letter fun Qg hg => ?_
      obtain ⟨ro, rkvs, hro, hlo, hrd, hrb⟩ := S.rls
      refine hg ?_
      clear hg
      refine letter fun Qg hg => ?_
      obtain ⟨rvs, rn, hwd, hra⟩ := S.rws
      refine hg ?_
      clear hg
      have hlen4 : rkvs.length ≤ 4 := few_keys (isDict_nodup hrd) hrb.keys
      have fewR := (RS.run_few (n := 100) hrun2 fewS).2
      rw [← hra.length] at fewR
      refine letter fun Qg hg => ?_
      obtain ⟨ne1, ne2, ne3, ne4, ne5, ne6, ne7, ne8, ne9, neA, nek⟩ := apart_ne S.apart
      refine hg ?_
      clear hg
      refine letter fun Qg hg => ?_
      obtain ⟨own, hown, hoff, N⟩ := led_self4 S hLZ hg0 hdx hro hwd
      refine hg ?_
      clear hg
      have hcvh : handedIn cv = true := hcv.handed
      have F₀ := And.intro F trivial
      dsimp only [selfD, ent] at N
      (try dsimp only [mRows] at F)
      (try k_fold)
      ((try k_extra "m letter"); w_strict k_steps)
      (try k_unfold)
      (try dsimp only)
      (with_reducible rename Fr _ _ _ _ => kF)
      (with_reducible rename News _ _ _ _ => kN)
      have hk4 := rest_kept F₀.1 kF kN (fun p hp => by rw [← hown] at hp; k_ownIn)
      have upH := hid_up hk4 S hLZ
      refine hq st2.end' _ (rvs ++ [_]) 0 _ _ ?_ (fun b o e => kF.keep _ _ (up _ _ e)) (none_up up (kN _ (.head _)).2.2) (kN _ (.head _)).1 ?_
      · simp only [FDE.rows, hrun0]; rw [hrun2]
      · exact (hra.imp fun _ _ r => r.keeps upH).append (.cons (.mk (q1 := (_, _)) (q2 := (_, _)) (q3 := (_, _)) (kN _ (.tail _ (.tail _ (.head _)))).1 (kN _ (.tail _ (.tail _ (.tail _ (.head _))))).1 (hcv.keeps upH) ⟨_, rkvs, (kN _ (.tail _ (.tail _ (.tail _ (.tail _ (.head _)))))).1, by assumption, by assumption, hrb.keeps upH⟩) .nil)
section
variable {prog : Program} {w : World} {A₀ A : Around} {s : Shared} {base h₀ : Heap} {outer : List Env} {L : Addr} {m mg mb : Str → Option Value} {env : Env} {news : List (Addr × Obj)} {K : Frag} {p : Program} {loose : List Str} {mean : ExcName → Option Value}
  {R : Result → Shared → Prop} {name qual : Str} {params : Arguments} {body : List Stmt} {scope : Scope} {dV kV doc pm cdv ct oc : Value} {an od : Option Addr} {osl : Array (Option Value)} {f : Addr} {args : Args} {binds : List (Str × Value)}
/-- into a def that has cells: the base is all that stands but the ledger handed over -/
theorem enterC (B : Below A₀ base outer h₀) (F : Fr h₀ L s.heap m) (X₀ : K.In h₀) (T : Top p loose mean mg mb h₀) (N : News h₀ L s.heap news)
    (hA : A.frames = some (env :: outer)) (hf : env.frame = some L) (hke : env.scope.kind = .function)
    (ho : K.lookup f = some ⟨oc, od, .func (fnOf name qual params body scope dV kV doc pm an cdv ct), osl⟩) (hcd : codeIn K cdv qual = true) (hroom : A.depth < recursionLimit)
    (hbind : BindsTo s (fnOf name qual params body scope dV kV doc pm an cdv ct) args binds) (hkind : (binds.all fun y => scope.names.lookup y.1 == some .local || scope.names.lookup y.1 == some .cell) = true)
    (hnd : ((cellsFrom 0 scope.names []).map (·.1)).Nodup)
    (h : ∀ g L' h₁ tk cells, (∀ b o, b ∉ news.map (·.1) → s.heap.get? b = some o → g.get? b = some o) → (∀ b o, s.heap.get? b = some o → h₁.get? b = some o) → s.heap.get? L' = none →
      Fr g L' h₁ (bindL (envOfC qual scope L' f cdv).kindOf binds fun _ => none) → News g L' h₁ (cells ++ news) →
      CellsAre (bindC (envOfC qual scope L' f cdv).kindOf binds fun _ => none) (cellsFrom (L' + 1) scope.names []) cells → Below A base (env :: outer) g → K.In g → Top p loose mean mg mb g → (∀ p ∈ news, p.1 < L') →
      wpAny (model prog w) (A.deeper (envOfC qual scope L' f cdv)) (execs body (envOfC qual scope L' f cdv))
        (fun fl s' => R (.ok (.ret (match fl with | .ret v => v | _ => .none))) s')
        (fun e s' => wpAny (model prog w) (A.deeper (envOfC qual scope L' f cdv)) (leaving (envOfC qual scope L' f cdv) e) (fun _ s'' => R (.error e) s'') (fun e' s'' => R (.error e') s'') s')
        { s with heap := h₁, toks := tk })
    (hco : scope.isCoroutine = false) (hgen : scope.isGenerator = false) (hk : scope.kind = .function) : codeAny (model prog w) A (.call (.ref f) args) R s := by
  obtain ⟨FG, BG, st, lv⟩ := groundX (R := R) B F N hA hf hke
  have ho' := (X₀.keeps F.keep) _ _ ho
  refine codeAny_call_function hroom ho' rfl hco hgen rfl (codeRec_of (X₀.keeps F.keep) hcd) (hbind _ _ _ _ ?_)
  refine wpAny_newFunctionEnv_cells hk (kindsX hkind _) fun env' he s' x => ?_
  subst he
  refine ⟨(T.nolimit.keeps F.keep).keeps x.toInCall.keep, codeAny_func ?_⟩
  obtain ⟨h₁, tk, rfl, _⟩ := x.done
  have hk₁ := x.toInCall.keep
  obtain ⟨cells, NC, Y⟩ := Cl.news (h₀ := s.heap) (Nat.le_refl _) fun n c hm => ⟨x.cell n c (lookup_of_mem_nodup (cellsFrom_names scope.names 0 (s.heap.objs.size + 1) [] [] rfl ▸ hnd) hm), x.above n c hm⟩
  refine h _ s.heap.objs.size h₁ tk cells (fun b o hb e => hideAll_get _ e hb) hk₁ (Heap.get?_none_of_le (Nat.le_refl _)) ⟨x.toInCall.ns, fun b o e => hk₁ b o (of_hideAll _ e), Nat.le_of_eq (hideAll_size _ _)⟩ (fun p hp => ?_) Y BG (X₀.keeps st) (T.keeps st) (fun p hp => Heap.lt_size (N p hp).1)
  rcases List.mem_append.mp hp with hp | hp
  · refine ⟨(NC p hp).1, (NC p hp).2.1, ?_⟩
    cases q : (hideAll s.heap (news.map (·.1))).get? p.1 with
    | none => rfl
    | some o => have := of_hideAll _ q; rw [(NC p hp).2.2] at this; cases this
  · exact ⟨hk₁ _ _ (N p hp).1, Nat.ne_of_lt (Heap.lt_size (N p hp).1), hideAll_none _ (List.mem_map_of_mem hp)⟩
end
theorem lines_L1 : True := by
  k_with_none
  (k_with "execs cons" => (k_here; first | ((fail_if_success (fail_if_success k_gentoks)); (refine tok_letter ?_); intro tk) | ((fail_if_success (with_reducible show wpAny _ _ _ (Behind _) _ _)); (with_reducible refine Q_letter ?_); intro Q9 hQ9) | (with_reducible refine execs_one ?_) | (with_reducible refine execs_cons_L ?_; intro Q9 hQ9)))
  (k_with "Behind" => ((rename (∀ f s', _ → Behind _ f s') => hB9); first | ((with_reducible refine hB9 _ _ ?_); (try dsimp only)) | (clear hB9; k_extra "Behind")))
  (k_with "BehindE" => ((rename (∀ e s', _ → BehindE _ e s') => hB9); first | ((with_reducible refine hB9 _ _ ?_); (try dsimp only)) | (clear hB9; k_extra "BehindE")))
  (k_with "m letter" => (first | (with_reducible show wpAny _ _ _ (Behind _) (BehindE _) _) | (with_reducible show wpAny _ _ _ _ (BehindE _) _; refine Q_letter ?_; intro Q9 hQ9) | (with_reducible refine QE_letter (by passes_own) ?_; intro Q9 E9 hQ9 hE9 hP9) | (refine Q_letter ?_; intro Q9 hQ9)))
  (k_with "subscriptTail" => (k_here; (with_reducible show wpAny _ _ (subscriptTail _ _ (Value.ref _) (Value.int 0 _)) _ _ _); k_dflt (refine' tup_item0 ?tzL11 ?_ (by with_unfolding_all rfl) (by intro _; with_unfolding_all rfl); (case tzL11 => ktr_rel); k_whole)))
  (k_with "subscriptTail" => (k_here; (with_reducible show wpAny _ _ (subscriptTail _ _ (Value.ref _) (Value.int 1 _)) _ _ _); k_dflt (refine' tup_item1 ?tzL12 ?_ (by with_unfolding_all rfl) (by intro _; with_unfolding_all rfl); (case tzL12 => ktr_rel); k_whole)))
  (k_with "call builtin:list.append" => (k_here; (with_reducible show wpAny _ _ (call (Value.builtin _) [Value.ref _, _]) _ _ _); k_dflt (refine' append_K ?k1zL13 ?k2zL13 ?k3zL13 ?_ ?zzL13; (case k1zL13 => k_asm); (case k2zL13 => k_asm); (case k3zL13 => k_upd); (case zzL13 => ktr_room); k_whole); intro _ _ _; (try k_sweep)))
  (k_with "compareOp Eq ref ref" => (k_here; (with_reducible show wpAny _ _ (compareOp CmpOp.Eq (Value.ref _) (Value.ref _)) _ _ _); k_dflt (first | refine eq_nilT (by is_list) (by is_list) (by units_room) ?_ | refine eq_nilF (vs := _) (v := _) (by is_list) (by is_list) (by units_room) ?_)))
  (k_with "call builtin:list.pop" => (k_here; (with_reducible show wpAny _ _ (call (Value.builtin _) [Value.ref _]) _ _ _); k_dflt (refine' lpop_K ?FzL15 ?NzL15 ?UzL15 ?zzL15 ?_; (case FzL15 => k_asm); (case NzL15 => k_asm); (case UzL15 => k_upd); (case zzL15 => assumption)); (intro _ _ N'; (try dsimp only [List.nil_append, List.cons_append] at N'))))
  (k_with "exec For Tuple Name cons nil" => (k_here; (with_unfolding_all refine' For_H ?_ (by intro _; rfl) (by passes_own); k_whole)))
  (k_with "compareOp Eq str str" => (k_here; (with_reducible refine str_eqF (by assumption) ?_)))
  (k_with "compareOp NotEq str str" => (k_here; (with_reducible refine str_neT (by assumption) ?_)))
  (k_with "call builtin:len" => (k_here; k_dflt (refine' llen_K ?NzL19 ?mzL19 ?fzL19 ?_; (case NzL19 => k_asm); (case mzL19 => k_mem); (case fzL19 => omega); k_whole)))
  (k_with "subscriptTail Name Slice ref ref" => (k_here; (with_reducible show wpAny _ _ (subscriptTail _ (PySem.Expr.Slice _ _ none _) (Value.ref _) (Value.ref _)) _ _ _); k_dflt (refine' kmk_slice_lit ?FzL110 ?NzL110 ?lzL110 ?pzL110 ?qzL110 ?ezL110 ?_ ?szL110 ?tzL110 ?zzL110; (case FzL110 => k_asm); (case NzL110 => k_asm); (case lzL110 => exact News.isList (by k_asm) (by k_mem)); (case pzL110 => kmk_part); (case qzL110 => kmk_part); (case ezL110 => exact pick_upto); (case szL110 => with_unfolding_all rfl); (case tzL110 => kmk_pure); (case zzL110 => ktr_room)); intro _ _ _ _ l1; (try k_lt l1); (try k_sweep)))
  (k_with "m k_lt" => (intro hlt9; replace hlt9 := allLt_of hlt9; dsimp only [AllLt] at hlt9; revert hlt9))
  (k_with "m k_ne" => ((refine neN ?_; (try dsimp only); first | (with_reducible assumption) | (with_reducible exact Ne.symm (by assumption)) | omega)))
  (k_with "m k_inst" => (exact inst_base (by with_reducible assumption) (by with_reducible assumption) (by with_reducible assumption)))
  (k_with "m k_room" => (((try simp only [depth_under_make, depth_under_kw, depth_in1, depth_deeper, depth_caller]); (try dsimp only [arT]); omega)))
  (k_with "m ktr_rel" => (first | exact Fr.tup (by assumption) (by assumption) | exact tup2 (by assumption) (by assumption) (by assumption) | exact tup3 (by assumption) (by assumption) (by assumption) (by assumption) | exact News.isTup (by k_asm) (by k_mem)))
  (k_with "m k_handed" => (assumption))
  (k_with "m ktr_room" => ((rw [sizeLine_eq]; (try simp only [List.size_toArray, List.length_append, List.length_cons, List.length_nil]); omega)))
  (k_with "m units_room" => (((try simp only [units_in1, units_deeper, Around.mark_units, units_caller]); (try dsimp only [arT]); (have hcL9 := cLine_is); (try simp only [cLine] at *); omega)))
  trivial

noncomputable abbrev mLines (ol ll oa : Addr) (u1 u2 : Option Value) : Str → Option Value := fun z => if z = Str.ofString "args" then u2 else if z = Str.ofString "name" then u1 else if z = Str.ofString "opens" then some (.ref oa) else if z = Str.ofString "lines" then some (.ref ll) else if z = Str.ofString "ops" then some (.ref ol) else none
theorem mLines_init {ol ll oa : Addr} {y : Str} : (if y = Str.ofString "lines" then some (Value.ref ll) else if y = Str.ofString "opens" then some (Value.ref oa) else List.lookup y [(Str.ofString "ops", Value.ref ol)].reverse) = mLines ol ll oa none none y := by
    by_cases k0 : y = Str.ofString "args"
    · subst k0; rfl
    by_cases k1 : y = Str.ofString "name"
    · subst k1; rfl
    by_cases k2 : y = Str.ofString "opens"
    · subst k2; rfl
    by_cases k3 : y = Str.ofString "lines"
    · subst k3; rfl
    by_cases k4 : y = Str.ofString "ops"
    · subst k4; rfl
    simp only [mLines, if_neg k0, if_neg k1, if_neg k2, if_neg k3, if_neg k4]
    simp only [List.reverse_cons, List.reverse_nil, List.nil_append, List.lookup_cons, List.lookup_nil]
    rw [show (y == Str.ofString "ops") = false from by simpa using k4]

theorem mLines_over {ol ll oa : Addr} {u1 u2 v1 v2 : Option Value} {y : Str} : (if y = Str.ofString "args" then v2 else if y = Str.ofString "name" then v1 else mLines ol ll oa u1 u2 y) = mLines ol ll oa v1 v2 y := by
    by_cases k0 : y = Str.ofString "args"
    · subst k0; rfl
    by_cases k1 : y = Str.ofString "name"
    · subst k1; rfl
    by_cases k2 : y = Str.ofString "opens"
    · subst k2; rfl
    by_cases k3 : y = Str.ofString "lines"
    · subst k3; rfl
    by_cases k4 : y = Str.ofString "ops"
    · subst k4; rfl
    simp only [mLines, if_neg k0, if_neg k1, if_neg k2, if_neg k3, if_neg k4]

/-- what _law_lines gives back -/
noncomputable def LinesRes (h h' : Heap) (v : Value) (r : Option (List Op)) : Prop := match r with
  | none => v = .none
  | some l => ∃ r lvs n, v = .ref r ∧ h.get? r = none ∧ h'.get? r = some (listOf (List.toArray lvs) n) ∧ All2 (OpIn h') lvs l
theorem mLines_both {ol ll ll' oa : Addr} {u1 u2 v1 v2 : Option Value} {y : Str} : (if y = Str.ofString "lines" then some (.ref ll') else if y = Str.ofString "args" then v2 else if y = Str.ofString "name" then v1 else mLines ol ll oa u1 u2 y) = mLines ol ll' oa v1 v2 y := by
    by_cases k0 : y = Str.ofString "args"
    · subst k0; rfl
    by_cases k1 : y = Str.ofString "name"
    · subst k1; rfl
    by_cases k2 : y = Str.ofString "opens"
    · subst k2; rfl
    by_cases k3 : y = Str.ofString "lines"
    · subst k3; rfl
    by_cases k4 : y = Str.ofString "ops"
    · subst k4; rfl
    simp only [mLines, if_neg k0, if_neg k1, if_neg k2, if_neg k3, if_neg k4]

/-- how the loop over the operations stands -/
inductive JLines (g : Heap) (L ol : Addr) (wr : List Addr) (ops : List Op) (i : Nat) (h : Heap) : Prop
  | mk (u1 u2 ll oa lvs ln ovs on lines opens : _) : Fr g L h (mLines ol ll oa u1 u2) → (h.get? ll = some (listOf (List.toArray lvs) ln)) → (h.get? oa = some (listOf (List.toArray ovs) on)) → All2 (OpIn (hideAll h (L :: ll :: oa :: wr))) lvs lines → IntsAre ovs (opens.map Int.ofNat) → (linesRun ([], []) (ops.take i) = some (lines, opens)) → ((@Ne Nat ll oa ∧ ll ∉ wr ∧ oa ∉ wr ∧ ll ≠ L ∧ oa ≠ L)) → (g.get? ll = none) → (g.get? oa = none) → JLines g L ol wr ops i h
theorem JLines.mk' {g h : Heap} {L ol ll oa : Addr} {wr : List Addr} {ops : List Op} {i ln on : Nat} {u1 u2 : Option Value} {lvs ovs : List Value} {lines : List Op} {opens : List Nat} (F : Fr g L h (mLines ol ll oa u1 u2)) (e1 : h.get? ll = some (listOf lvs.toArray ln)) (e2 : h.get? oa = some (listOf ovs.toArray on))
    (A1 : All2 (OpIn (hideAll h (L :: ll :: oa :: wr))) lvs lines) (I1 : IntsAre ovs (opens.map Int.ofNat)) (hr : linesRun ([], []) (ops.take i) = some (lines, opens)) (n1 : @Ne Nat ll oa) (n2 : ll ∉ wr) (n3 : oa ∉ wr) (n4 : ll ≠ L) (n5 : oa ≠ L) (g3 : g.get? ll = none) (g4 : g.get? oa = none) : JLines g L ol wr ops i h :=
  ⟨u1, u2, ll, oa, lvs, ln, ovs, on, lines, opens, F, e1, e2, A1, I1, hr, ⟨n1, n2, n3, n4, n5⟩, g3, g4⟩

set_option maxHeartbeats 16000000 in
theorem lines_h {w : World} {loose : List Str} {mean : ExcName → Option Value} {mg mb : Str → Option Value} {A₀ : Around} {dp un : Nat} {gd : Option (List Code)} {env : Env} {outer : List Env} {base h₀ : Heap} {L : Addr} {m : Str → Option Value} {s : Shared} {Q E : Value → Shared → Prop} {ol : Addr} {ovs : List Value} {ops : List Op}
    (B : Below A₀ base outer h₀) (F : Fr h₀ L s.heap m) (X : (hd.heap_1 w.params).In h₀) (T : Top topProg loose mean mg mb h₀)
    (hf : env.frame = some L) (hk : env.scope.kind = .function) (hroom : dp + 6 < recursionLimit) (hun : un + 200 < cLine) (hol : s.heap.IsList ol ovs.toArray) (hops : All2 (OpIn s.heap) ovs ops) (hlen : ops.length ≤ 200)
    (hq : ∀ v h' tk', Up s.heap h' → LinesRes s.heap h' v (lawLines ops) → Q v { s with heap := h', toks := tk' }) :
    wpAny (model PySem.Challenge.rw_on0310_01.row.prog w) (arT dp un gd env outer) (call (.ref 215) [.ref ol]) Q E s := by
  revert X; k_fill; intro X
  have N : News h₀ L s.heap [] := fun p hp => by cases hp
  refine wpAny_call ?_
  k_dflt (refine' enter (binds := [(Str.ofString "ops", .ref ol)]) B F X T N rfl hf hk ?k6 ?k7 ?k8 ?k9 ?kB ?_ ?c2 ?c3 ?c4 ?c5; (case k6 => k_is); (case k7 => k_is); (case k8 => show dp < _; omega); (case k9 => exact BindsTo.of_eq rfl); (case c5 => decide); (case kB => exact locs rfl); (case c2 => exact rfl); (case c3 => exact rfl); (case c4 => exact rfl); k_whole; intro g L' h' hg hk₁ hL' F' N' B' X' T'; (try dsimp only); (try k_fold))

  have up : Up s.heap g := fun b o e => hg b o List.not_mem_nil e
  clear hg hk₁
  have g1 : g.IsList ol ovs.toArray := hol.at fun o e => up _ _ e
  have g2 := ops_up up hops
  ((try k_extra "m letter"); w_strict k_steps)
  (with_reducible rename Fr _ _ _ _ => kF)
  (with_reducible rename News _ _ _ _ => kN)
  refine list_H rfl (g1.at fun o e => kF.keep _ _ e) ?_
  rintro fp wr h₁ jj1
  refine letter fun Qg hg => ?_
  obtain ⟨isrc, iwr, iup, ithere, ind⟩ := jj1
  refine hg ?_
  clear hg
  have F₁ := fr_map (Fr.keeps kF iup) (fun y => mLines_init)
  have a1 := kN _ (.tail _ (.head _))
  have a2 := kN _ (.tail _ (.tail _ (.head _)))
  have off : ∀ b, (∃ o, Heap.get? _ b = some o) → b ∉ wr := fun b hb q => by obtain ⟨o, e⟩ := hb; rw [(iwr b q).2] at e; cases e
  have gnone : ∀ b ∈ wr, b ≠ L' ∧ g.get? b = none := fun b hb => ⟨(fun e => by obtain ⟨oL, hL⟩ := fr_there kF; rw [← e, (iwr b hb).2] at hL; cases hL), (by
    cases q : g.get? b with
    | none => rfl
    | some o => have := kF.keep _ _ q; rw [(iwr b hb).2] at this; cases this)⟩
  refine ⟨JLines g L' ol wr ops, ⟨none, none, _, _, [], 0, [], 0, [], [], F₁, iup _ _ a2.1, iup _ _ a1.1, .nil, .nil, rfl, ⟨neN (by omega), off _ ⟨_, a2.1⟩, off _ ⟨_, a1.1⟩, a2.2.1, a1.2.1⟩, a2.2.2, a1.2.2⟩, ?_, ?_, ?_⟩
  · rintro i h h' jj2 k ex
    refine letter fun Qg hg => ?_
    obtain ⟨u1, u2, ll, oa, lvs, ln, ovs', on, lines, opens, F, e1, e2, A1, I1, hr, ⟨n1, n2, n3, n4, n5⟩, g3, g4⟩ := jj2
    refine hg ?_
    clear hg
    exact ⟨u1, u2, ll, oa, lvs, ln, ovs', on, lines, opens, Fr.after F k gnone, k _ _ n2 e1, k _ _ n3 e2, ops_up (hide_step k (fun a ha => by simp [ha]) (fun a ha => .inl ha)) A1, I1, hr, ⟨n1, n2, n3, n4, n5⟩, g3, g4⟩
  · clear kF kN F₁ a1 a2 off
    rintro i v h tk hi hvi jj3 hex
    refine letter fun Qg hg => ?_
    obtain ⟨u1, u2, ll, oa, lvs, ln, ovs', on, lines, opens, F, e1, e2, A1, I1, hr, ⟨n1, n2, n3, n4, n5⟩, g3, g4⟩ := jj3
    refine hg ?_
    clear hg
    obtain ⟨op, hop, hv'⟩ := g2.get hvi
    refine letter fun Qg hg => ?_
    obtain ⟨aT, b, t, n9, k9, vs9, rfl, hT, hb, hi2⟩ := hv'
    refine hg ?_
    clear hg
    have few := lines_few (n := 0) hr ⟨Nat.le_refl _, Nat.le_refl _⟩
    rw [List.length_take] at few
    dsimp only at few
    have lenL := A1.length
    have lenO := I1.length
    rw [List.length_map] at lenO
    have hT' := isTup_of (F.keep _ _ hT)
    refine letter fun Qg hg => ?_
    obtain ⟨own, hown, hoff, N⟩ := led2 e1 n4 g3 e2 n5 g4
    refine hg ?_
    clear hg
    have F₀ := And.intro F trivial
    (try dsimp only [mLines] at F)
    have fpk : ∀ h9 : Heap, Kept (L' :: [ll, oa]) h h9 → Up g h9 → ∀ b ∈ fp, ∀ o, h.get? b = some o → h9.get? b = some o := fun h9 k up9 b hb o e => by
      rcases isrc b hb with r | r
      · have e1 := List.mem_singleton.mp r
        subst e1
        obtain ⟨o', e2, _⟩ := g1
        have e3 := F₀.1.keep _ _ e2
        rw [e3] at e; cases e
        exact up9 _ _ e2
      · refine k b o (fun q => ?_) e
        rcases List.mem_cons.mp q with q | q
        · exact (gnone b r).1 q
        · rcases List.mem_cons.mp q with q | q
          · exact n2 (q ▸ r)
          · exact n3 (List.mem_singleton.mp q ▸ r)
    have zsub : ∀ a ∈ L' :: [ll, oa], a ∈ L' :: ll :: oa :: wr := fun a ha => by
      simp only [List.mem_cons, List.not_mem_nil, or_false] at ha ⊢
      rcases ha with r | r | r <;> simp [r]
    have wrh : ∀ D, h.get? D = none → D ∉ wr := fun D e q => by obtain ⟨o, e2⟩ := hex D (iwr D q).1; rw [e] at e2; cases e2
    by_cases hrem : op = .remember
    · subst hrem
      ((try k_extra "m letter"); w_strict k_steps)
      (with_reducible rename Fr _ _ _ _ => kF)
      (with_reducible rename News _ _ _ _ => kN)
      have k9 : Kept (L' :: [ll, oa]) h _ := rest_kept F₀.1 kF kN (fun p hp => .tail _ (.tail _ (hown ▸ hp)))
      have e9 := (kN _ (.tail _ (.head _))).1
      rw [List.push_toArray] at e9
      refine ⟨_, _, rfl, .mk' (opens := opens ++ [lines.length]) (fr_map kF (fun y => mLines_over)) (kN _ (.head _)).1 e9 (ops_up (hide_step k9 zsub (fun a ha => .inl ha)) A1) ?_ ((linesRun_take hop hr).trans rfl) n1 n2 n3 n4 n5 g3 g4, fpk _ k9 kF.keep⟩
      rw [List.map_append, lenL]; exact ints_snoc I1
    · by_cases hbk : op = .back
      · subst hbk
        rcases List.eq_nil_or_concat opens with rfl | ⟨os, k1, rfl⟩
        · have ev := List.eq_nil_of_length_eq_zero lenO
          subst ev
          ((try k_extra "m letter"); w_strict k_steps)
          (with_reducible rename Fr _ _ _ _ => kF)
          (try dsimp only [StepH])
          (repeat k_extra "Behind")
          (try k_unfold)
          refine hq _ _ _ (fun b o e => kF.keep _ _ (up _ _ e)) ?_
          show LinesRes _ _ _ _; unfold LinesRes lawLines; rw [linesRun_none hop hr rfl]; rfl
        · rw [List.concat_eq_append] at *
          rw [List.map_append] at I1
          refine letter fun Qg hg => ?_
          obtain ⟨us, tu, rfl, I2⟩ := ints_concat I1
          refine hg ?_
          clear hg
          have hkl : (us ++ [Value.int (Int.ofNat k1) tu]).length ≤ sizeLine := by rw [lenO, sizeLine_eq]; omega
          ((try k_extra "m letter"); w_strict k_steps)
          (with_reducible rename Fr _ _ _ _ => kF)
          (with_reducible rename News _ _ _ _ => kN)
          have k9 : Kept (L' :: [ll, oa]) h _ := rest_kept F₀.1 kF kN (fun p hp => .tail _ (.tail _ (.tail _ (.tail _ (hown ▸ hp)))))
          have gD := kN _ (.head _)
          dsimp only at gD
          (rename (_ ∧ _ ∧ _ ∧ AllLt _ _) => hl9)
          have hD := fresh_rest (as := [ll, oa]) gD.2.2 gD.2.1 (by simp only [List.mem_cons, List.not_mem_nil, or_false, not_or]; refine ⟨neN ?_, neN ?_⟩ <;> omega) (hown ▸ hl9.2.2.2)
          refine ⟨_, _, rfl, .mk' (fr_map kF (fun y => mLines_both)) gD.1 (kN _ (.tail _ (.tail _ (.tail _ (.head _))))).1 ((ops_up (hide_step k9 zsub (fun a ha => ?_)) (A1.take k1))) I2 ((linesRun_take hop hr).trans ?_) (neN (by omega)) (wrh _ hD) n3 gD.2.1 n5 gD.2.2 g4, fpk _ k9 kF.keep⟩
          · simp only [List.mem_cons] at ha ⊢
            rcases ha with r | r | r | r
            · exact .inl (.inl r)
            · exact .inr (r ▸ hD)
            · exact .inl (.inr (.inr (.inl r)))
            · exact .inl (.inr (.inr (.inr r)))
          · simp only [linesStep, List.getLast?_concat, List.dropLast_concat]
      · have hne1 : op.name ≠ Str.ofString "remember_state" := fun e => hrem (name_remember.mp e)
        have hne2 : op.name ≠ Str.ofString "restore_state" := fun e => hbk (name_back.mp e)
        have hrn : linesRun ([], []) (ops.take (i + 1)) = some (lines ++ [op], opens) := (linesRun_take hop hr).trans (linesStep_other hrem hbk)
        have hopn : ∃ nm, op.name = nm := ⟨_, rfl⟩
        obtain ⟨nm, hnm⟩ := hopn
        rw [hnm] at hne1 hne2 hT hT'
        ((try k_extra "m letter"); w_strict k_steps)
        (with_reducible rename Fr _ _ _ _ => kF)
        (with_reducible rename News _ _ _ _ => kN)
        have kk : Kept (L' :: [ll, oa]) h _ := rest_kept F₀.1 kF kN (fun p hp => .tail _ (.tail _ (.tail _ (hown ▸ hp))))
        have gT := kN _ (.head _)
        dsimp only at gT
        (rename (_ ∧ _ ∧ AllLt _ _) => hl9)
        have hTn := fresh_rest (as := [ll, oa]) gT.2.2 gT.2.1 (by simp only [List.mem_cons, List.not_mem_nil, or_false, not_or]; refine ⟨neN ?_, neN ?_⟩ <;> omega) (hown ▸ hl9.2.2)
        have e9 := (kN _ (.tail _ (.head _))).1
        rw [List.push_toArray] at e9
        refine ⟨_, _, rfl, .mk' (fr_map kF (fun y => mLines_over)) e9 (kN _ (.tail _ (.tail _ (.head _)))).1 ((ops_up (hide_step kk zsub (fun a ha => .inl ha)) A1).append (.cons ⟨_, b, t, 0, k9, vs9, rfl, ?_, ?_, hi2⟩ .nil)) I1 hrn n1 n2 n3 n4 n5 g3 g4, fpk _ kk kF.keep⟩
        · rw [hnm]
          refine hideAll_get _ gT.1 ?_
          simp only [List.mem_cons, not_or]
          exact ⟨gT.2.1, neN (by omega), neN (by omega), wrh _ hTn⟩
        · refine hideAll_get _ (kF.keep _ _ hb) ?_
          simp only [List.mem_cons, not_or]
          have nb : ∀ c, g.get? c = none → b ≠ c := fun c e q => by rw [← q, hb] at e; cases e
          exact ⟨nb _ (Heap.get?_none_of_le F₀.1.above), nb _ g3, nb _ g4, fun q => nb b (gnone b q).2 rfl⟩
  · intro h h' tk hJ k
    rw [g2.length] at hJ
    refine letter fun Qg hg => ?_
    obtain ⟨u1, u2, ll, oa, lvs, ln, ovs', on, lines, opens, F, e1, e2, A1, I1, hr, ⟨n1, n2, n3, n4, n5⟩, g3, g4⟩ := hJ
    refine hg ?_
    clear hg
    clear kF kN F₁ a1 a2 off
    rw [List.take_length] at hr
    have F := Fr.after F k gnone
    refine letter fun Qg hg => ?_
    obtain ⟨own, hown, hoff, N⟩ := led1 (k _ _ n2 e1) n4 g3
    refine hg ?_
    clear hg
    have A2 := ops_up (hide_step k (fun a ha => by simp [ha]) (fun a ha => .inl ha)) A1
    (try dsimp only [mLines] at F)
    ((try k_extra "m letter"); w_strict k_steps)
    (try k_unfold)
    (with_reducible rename Fr _ _ _ _ => kF)
    (with_reducible rename News _ _ _ _ => kN)
    refine hq _ _ _ (fun b o e => kF.keep _ _ (up _ _ e)) ?_
    unfold LinesRes lawLines; rw [hr]
    exact ⟨_, lvs, ln, rfl, up_none up g3, (kN _ (.head _)).1, ops_up hide_out A2⟩
/-- the law's own reading of the lines that stand -/
noncomputable def ruleOf : Op → Option Str
  | .offset _ _ | .offsetX _ _ => some (Str.ofString "offset")
  | .valOff _ _ => some (Str.ofString "val_offset")
  | .reg _ _ => some (Str.ofString "register")
  | .same _ => some (Str.ofString "same")
  | .undef _ => some (Str.ofString "undefined")
  | _ => none
noncomputable def isRestore : Op → Bool
  | .restore _ => true
  | _ => false
noncomputable def frameStep (c : Cfa) : Op → Option Cfa
  | .cfa m x => some (some (m, x))
  | .cfaReg m => match c with
    | none => none
    | some p => some (some (m, p.2))
  | .cfaOff x => match c with
    | none => none
    | some p => some (some (p.1, x))
  | _ => some c
noncomputable def frameRun (c : Cfa) : List Op → Option Cfa
  | [] => some c
  | op :: r => match frameStep c op with
    | none => none
    | some c' => frameRun c' r
noncomputable def onMark (mark : Int) (op : Op) : Bool := decide (op.args.head? = some mark) && ((ruleOf op).isSome || isRestore op)
noncomputable def ruleArg (op : Op) : Int := match op.args with
  | [_, c] => c
  | _ => 0
noncomputable def lawRule (first : Rules) (lines : List Op) (mark : Int) : Option Rule := match (lines.filter (onMark mark)).getLast? with
  | none => none
  | some op => match ruleOf op with
    | some x => some (x, ruleArg op)
    | none => first mark
noncomputable def lawRules (first : Rules) (lines : List Op) : Rules := fun k => if 0 ≤ k ∧ k < 4 then lawRule first lines k else none
noncomputable def lawState (ops : List Op) (first : Rules) : Option (Cfa × Rules) := match lawLines ops with
  | none => none
  | some lines => match frameRun none lines with
    | none => none
    | some c => some (c, lawRules first lines)
theorem frameRun_append (c : Cfa) (l r : List Op) : frameRun c (l ++ r) = (frameRun c l).bind fun s' => frameRun s' r := by
  induction l generalizing c with
  | nil => rfl
  | cons op l ih =>
    rw [List.cons_append, frameRun, frameRun]
    cases frameStep c op with
    | none => rfl
    | some s' => exact ih s'
theorem frameRun_take {c c' : Cfa} {l : List Op} {i : Nat} {op : Op} (hi : l[i]? = some op) (h : frameRun c (l.take i) = some c') : frameRun c (l.take (i + 1)) = frameStep c' op := by
  rw [List.take_add_one, hi, frameRun_append, h]
  show (Option.some c').bind _ = _
  simp only [Option.bind_some, Option.toList, frameRun]
  cases frameStep c' op <;> rfl
theorem frameRun_none {c c' : Cfa} {l : List Op} {i : Nat} {op : Op} (hi : l[i]? = some op) (h : frameRun c (l.take i) = some c') (hn : frameStep c' op = none) : frameRun c l = none := by
  have e : l = l.take (i + 1) ++ l.drop (i + 1) := (List.take_append_drop _ _).symm
  rw [e, frameRun_append, frameRun_take hi h, hn]; rfl
theorem name_cfa {op : Op} : op.name = Str.ofString "def_cfa" ↔ ∃ m c, op = .cfa m c := by cases op <;> simp [Op.name] <;> decide
theorem name_cfaReg {op : Op} : op.name = Str.ofString "def_cfa_register" ↔ ∃ m, op = .cfaReg m := by cases op <;> simp [Op.name] <;> decide
theorem name_cfaOff {op : Op} : op.name = Str.ofString "def_cfa_offset" ↔ ∃ m, op = .cfaOff m := by cases op <;> simp [Op.name] <;> decide
theorem name_restore {op : Op} : op.name = Str.ofString "restore" ↔ ∃ m, op = .restore m := by cases op <;> simp [Op.name] <;> decide
noncomputable abbrev ruleKvs (u1 u2 u3 u4 u5 u6 : Tok) : List (Str × Value) := [(Str.ofString "offset", .str (Str.ofString "offset") u1), (Str.ofString "offset_extended", .str (Str.ofString "offset") u2), (Str.ofString "val_offset", .str (Str.ofString "val_offset") u3), (Str.ofString "register", .str (Str.ofString "register") u4), (Str.ofString "same_value", .str (Str.ofString "same") u5), (Str.ofString "undefined", .str (Str.ofString "undefined") u6)]
theorem rule_at {u1 u2 u3 u4 u5 u6 : Tok} (op : Op) : match ruleOf op with
    | none => valueAt (ruleKvs u1 u2 u3 u4 u5 u6) op.name = none
    | some x => ∃ u, valueAt (ruleKvs u1 u2 u3 u4 u5 u6) op.name = some (.str x u) := by
  cases op <;> first | exact rfl | exact ⟨_, rfl⟩
theorem frameStep_other {c : Cfa} {op : Op} (h1 : ¬ ∃ m x, op = .cfa m x) (h2 : ¬ ∃ m, op = .cfaReg m) (h3 : ¬ ∃ m, op = .cfaOff m) : frameStep c op = some c := by
  cases op <;> first | rfl | exact absurd ⟨_, _, rfl⟩ h1 | exact absurd ⟨_, rfl⟩ h2 | exact absurd ⟨_, rfl⟩ h3
theorem isRestore_other {op : Op} (h : ¬ op.name = Str.ofString "restore") : isRestore op = false := by
  cases op <;> first | rfl | exact absurd rfl h
section
variable {prog : Program} {w : World} {A : Around} {E : Value → Shared → Prop} {s : Shared} {env : Env}
noncomputable abbrev lstOb (ys : List Value) : Obj := { cls := .type "list", data := .seq ys.toArray ys.length }
/-- a comprehension's turn ends -/
noncomputable def StepC (C D : Addr) (fp : List Addr) (ys : List Value) (Jn : Heap → Prop) (h : Heap) (s₂ s₅ : Shared) : Prop :=
  ∃ h' tk, s₅ = { s₂ with heap := h', toks := tk } ∧ Jn h' ∧ h'.get? D = some (lstOb ys) ∧ (∃ m', h'.Ns C m') ∧ ∀ b ∈ fp, ∀ o, h.get? b = some o → h'.get? b = some o
/-- what the turns of a comprehension with one test must show, for any use of it -/
noncomputable def AtTG (prog : Program) (w : World) (A : Around) (env : Env) (elt c target : Expr) (scope : Scope) (cl : List (Str × Addr)) (RR : Value → Addr → Result → Shared → Prop) (it : Value) (s₂ : Shared) : Prop :=
  ∃ (I : Addr) (fp wr : List Addr) (n : Nat) (P Md : Nat → Value → Heap → Prop) (St : Nat → Heap → Prop),
    it = .ref I ∧ KTurns prog w A target I fp wr n P Md St ∧ St 0 s₂.heap ∧ n ≤ sizeLine ∧ (∀ i h, St i h → ∀ b ∈ fp, ∃ o, h.get? b = some o) ∧ (∀ (s : Shared) (Q : Value → Shared → Prop) (E : Value → Shared → Prop), St 0 s.heap → Q (.ref I) s → wpAny (model prog w) A (pyIter (.ref I)) Q E s) ∧
    ∀ C D h₃, s₂.heap.get? C = none → s₂.heap.get? D = none → @Ne Nat C D → Up s₂.heap h₃ → (∃ o, h₃.get? C = some o) → h₃.get? D = some (lstOb []) →
    ∃ J : Nat → List Value → Heap → Prop, J 0 [] h₃ ∧ (∀ i ys h h', J i ys h → Kept (C :: D :: wr) h h' → (∀ b ∈ C :: D :: fp, ∃ o, h'.get? b = some o) → J i ys h') ∧
      (∀ i ys v h tk m' E', i < n → P i v h → J i ys h → h.Ns C m' → h.get? D = some (lstOb ys) → (∀ b ∈ C :: D :: fp, ∃ o, h.get? b = some o) →
        wpAny (model prog w) A (assign target (compEnvC scope cl C env) v) (fun _ s₃ => wpAny (model prog w) A (isTrue c (compEnvC scope cl C env) (eval c (compEnvC scope cl C env))) (fun ok s₄ =>
          if ok = true then wpAny (model prog w) A (eval elt (compEnvC scope cl C env)) (fun y s₅ => StepC C D fp ys (J (i + 1) (ys ++ [y])) h s₂ s₅) E' s₄ else StepC C D fp ys (J (i + 1) ys) h s₂ s₄) E' s₃) E' { s₂ with heap := h, toks := tk }) ∧
      ∀ ys h h' tk, J n ys h → h.get? D = some (lstOb ys) → Kept wr h h' → ys.length ≤ n → (∃ m', h'.Ns C m') → RR (.ref D) C (.ok .next) { s₂ with heap := h', toks := tk }

/-- and where its list is what is asked -/
noncomputable def AtT (prog : Program) (w : World) (A : Around) (env : Env) (elt c target : Expr) (scope : Scope) (cl : List (Str × Addr)) (E : Value → Shared → Prop) (Q : Value → Shared → Prop) (it : Value) (s₂ : Shared) : Prop := AtTG prog w A env elt c target scope cl (fun acc C => compPost (model prog w) A E none Q acc C) it s₂

theorem post_none {Q : Value → Shared → Prop} {wr : List Addr} {C D : Addr} {h h' : Heap} {s₂ : Shared} {tk : Nat} (k : Kept wr h h') (n : ∃ m', h'.Ns C m') (q : ∀ h'', Kept (C :: wr) h h'' → Q (.ref D) { s₂ with heap := h'', toks := tk }) :
    compPost (model prog w) A E none Q (.ref D) C (.ok .next) { s₂ with heap := h', toks := tk } :=
  let ⟨m', n⟩ := n
  ⟨m', n, fun h'' hs => q h'' fun b o hb e => hs.extBut b o (fun q => hb (by rw [q]; exact List.mem_cons_self)) (k b o (fun q => hb (List.mem_cons_of_mem _ q)) e)⟩
theorem comp_blockG {elt iter c target : Expr} {scope : Scope} {cl : List (Str × Addr)} {pos : Pos} {s₂ : Shared} {it : Value} {RR : Value → Addr → Result → Shared → Prop}
    (hcell : ∀ y ∈ scope.names, y.2 ≠ .cell) (hkind : scope.kind = .function) (H : AtTG prog w A env elt c target scope cl RR it s₂) :
    wpAny (model prog w) A (newList []) (fun acc s₃ => wpAny (model prog w) A (newFunctionEnv scope env.globals cl [] env.qual none .none (some env)) (fun cenv s₄ =>
      codeAny (model prog w) A (.compStart (.ListComp elt [⟨target, iter, [c], 0⟩] scope pos) 0 it acc { cenv with scope := relabel scope env }) (RR acc cenv.locals) s₄) E s₃) E s₂ := by
  obtain ⟨I, fp, wr, n, P, Md, St, rfl, W, hst, hsz, ex, self, H⟩ := H
  refine wpAny_newObj_type (wpAny_newFunctionEnv hcell (by intro y hy; simp at hy) (fun h₁ hns₁ hsb₁ => ?_) hkind)
  dsimp only at hns₁ hsb₁ ⊢
  generalize hH2 : s₂.heap.push { cls := .type "list", dict := none, data := .seq ([] : List Value).toArray } = H2 at hns₁ hsb₁ ⊢
  have hC : H2.objs.size = s₂.heap.objs.size + 1 := by rw [← hH2, Heap.size_push]
  have hDC : s₂.heap.objs.size ≠ H2.objs.size := by rw [hC]; exact Nat.ne_of_lt (Nat.lt_succ_self _)
  have below : ∀ b, b < s₂.heap.objs.size → b ≠ H2.objs.size ∧ b ≠ s₂.heap.objs.size := fun b hb => ⟨by rw [hC]; exact Nat.ne_of_lt (Nat.lt_succ_of_lt hb), Nat.ne_of_lt hb⟩
  have old : Up s₂.heap h₁ := fun b o e => hsb₁.extBut b o (below b (Heap.lt_size e)).1 (Heap.get?_push_of_some _ (hH2 ▸ Heap.get?_push_of_some _ e))
  have hacc : h₁.get? s₂.heap.objs.size = some (lstOb []) := hsb₁.extBut _ _ hDC (Heap.get?_push_of_some _ (hH2 ▸ Heap.get?_push_size _ rfl))
  have nC : s₂.heap.get? H2.objs.size = none := none_of_le (by rw [hC]; exact Nat.le_succ _)
  have nD : s₂.heap.get? s₂.heap.objs.size = none := none_of_le (Nat.le_refl _)
  have fpC : ∀ b ∈ fp, b ≠ H2.objs.size ∧ b ≠ s₂.heap.objs.size := fun b hb => by
    obtain ⟨o, e⟩ := ex 0 _ hst b hb
    exact below b (Heap.lt_size e)
  have hCf : H2.objs.size ∉ fp := fun q => (fpC _ q).1 rfl
  have hDf : s₂.heap.objs.size ∉ fp := fun q => (fpC _ q).2 rfl
  have hCw : H2.objs.size ∉ wr := fun q => hCf (W.sub _ q)
  have hDw : s₂.heap.objs.size ∉ wr := fun q => hDf (W.sub _ q)
  have hst₁ : St 0 h₁ := W.frame _ _ _ hst fun b _ o e => old b o e
  obtain ⟨J, h0, stab, step, done⟩ := H H2.objs.size s₂.heap.objs.size h₁ nC nD (Ne.symm hDC) old (ns_there hns₁) hacc
  have loop : ∀ s₃ : Shared, s₃ = { s₂ with heap := h₁, toks := s₂.toks + ([] : List (Str × Value)).length } →
      codeAny (model prog w) A (.compLoop (.ListComp elt [⟨target, iter, [c], 0⟩] scope pos) 0 (.ref I) (.ref s₂.heap.objs.size) (compEnvC scope cl H2.objs.size env))
        (RR (.ref s₂.heap.objs.size) H2.objs.size) s₃ := by
    rintro s₃ rfl
    refine kct_loop (fun k s' => ∃ h' tk i ys m', s' = { s₂ with heap := h', toks := tk } ∧ i ≤ n ∧ k = n + 1 - i ∧ ys.length ≤ i ∧ St i h' ∧ h'.Ns H2.objs.size m' ∧ h'.get? s₂.heap.objs.size = some (lstOb ys) ∧ J i ys h') ?_ (n + 1)
      ⟨h₁, _, 0, [], _, rfl, Nat.zero_le _, rfl, Nat.le_refl _, hst₁, hns₁, hacc, h0⟩
    rintro k s' ⟨h', tk, i, ys, m', rfl, hi, rfl, hyl, hst', hn', hD', hJ⟩
    by_cases hlt : i < n
    · refine W.item i _ _ _ hlt hst' fun v h₂ tk₂ hMd hk₂ => ?_
      refine W.go i v _ _ _ hMd fun h₃ hP hst₃ hk₃ => ?_
      have k3 : Kept wr h' h₃ := fun b o hb e => hk₃ b o hb (hk₂ b o hb e)
      have hn₃ : h₃.Ns H2.objs.size m' := hn'.at' fun o e => k3 _ o hCw e
      have hD₃ := k3 _ _ hDw hD'
      have ex₃ : ∀ b ∈ H2.objs.size :: s₂.heap.objs.size :: fp, ∃ o, h₃.get? b = some o := fun b hb => by
        rcases List.mem_cons.mp hb with rfl | hb
        · exact ns_there hn₃
        · rcases List.mem_cons.mp hb with rfl | hb
          · exact ⟨_, hD₃⟩
          · exact ex _ _ hst₃ b hb
      have hJ₃ := stab i ys _ _ hJ (k3.mono fun a ha => List.mem_cons_of_mem _ (List.mem_cons_of_mem _ ha)) ex₃
      refine wpAny_mono (step i ys v h₃ tk₂ m' _ hlt hP hJ₃ hn₃ hD₃ ex₃) (fun _ s₃ p₃ => wpAny_mono p₃ (fun ok s₄ p₄ => ?_) fun _ _ e => e) fun _ _ e => e
      cases ok with
      | false =>
        simp only [Bool.false_eq_true, if_false] at p₄ ⊢
        obtain ⟨h₅, tk₅, rfl, J₅, D₅, ⟨m₅, n₅⟩, f₅⟩ := p₄
        exact ⟨n + 1 - (i + 1), by omega, h₅, tk₅, i + 1, ys, m₅, rfl, hlt, rfl, Nat.le_succ_of_le hyl, W.frame _ _ _ hst₃ f₅, n₅, D₅, J₅⟩
      | true =>
        simp only [if_true] at p₄ ⊢
        refine wpAny_mono p₄ (fun y s₅ p₅ => ?_) fun _ _ e => e
        obtain ⟨h₅, tk₅, rfl, J₅, D₅, ⟨m₅, n₅⟩, f₅⟩ := p₅
        refine append_at (hsz := by show ys.toArray.size ≤ sizeLine; rw [List.size_toArray]; exact Nat.le_trans hyl (Nat.le_trans hi hsz)) D₅ fun h₆ hs₆ hD₆ => ?_
        have hst₅ := W.frame _ _ _ hst₃ f₅
        have hst₆ : St (i + 1) h₆ := W.frame _ _ _ hst₅ fun b hb o e => hs₆.extBut b o (fun q => hDf (q ▸ hb)) e
        have n₆ : h₆.Ns H2.objs.size m₅ := n₅.at' fun o e => hs₆.extBut _ o (Ne.symm hDC) e
        have D₆ : h₆.get? s₂.heap.objs.size = some (lstOb (ys ++ [y])) := hD₆.trans (congrArg some (LCg.lst_snoc ys y))
        refine ⟨n + 1 - (i + 1), by omega, h₆, _, i + 1, ys ++ [y], m₅, rfl, hlt, rfl, by rw [List.length_append, List.length_singleton]; exact Nat.succ_le_succ hyl, hst₆, n₆, D₆, ?_⟩
        refine stab _ _ _ _ J₅ (fun b o hb e => hs₆.extBut b o (fun q => hb (by rw [q]; exact List.mem_cons_of_mem _ List.mem_cons_self)) e) fun b hb => ?_
        rcases List.mem_cons.mp hb with rfl | hb
        · exact ns_there n₆
        · rcases List.mem_cons.mp hb with rfl | hb
          · exact ⟨_, D₆⟩
          · exact ex _ _ hst₆ b hb
    · have hin : i = n := Nat.le_antisymm hi (Nat.not_lt.mp hlt)
      subst hin
      refine W.done _ _ _ hst' fun h₂ tk₂ hk₂ => ?_
      exact done ys h' h₂ tk₂ hJ hD' hk₂ hyl ⟨m', hn'.at' fun o e => hk₂ _ o hCw e⟩
  exact codeAny_compStart_list (loop _ rfl) (self _ _ _ hst₁ (loop _ rfl))

theorem comp_T {elt iter c target : Expr} {scope : Scope} {cl : List (Str × Addr)} {pos : Pos} {Q : Value → Shared → Prop}
    (hclos : closureFor scope env = pure cl) (hcell : ∀ y ∈ scope.names, y.2 ≠ .cell) (hkind : scope.kind = .function)
    (hnames : ∀ y ∈ scope.names, y.2 = .local → scope.names.lookup y.1 = some .local)
    (h : wpAny (model prog w) A (eval iter env) (fun xv s₁ => wpAny (model prog w) A (pyIter xv) (fun it s₂ => AtT prog w A env elt c target scope cl E Q it s₂) E s₁) E s)
    (hs : ∀ x, foldedSetIterable iter env x = pure x) :
    wpAny (model prog w) A (eval (.ListComp elt [⟨target, iter, [c], 0⟩] scope pos) env) Q E s := by
  rw [eval_ListComp]
  exact wpAny_comprehension_free (use := none) rfl hs hclos hkind hnames (wpAny_mono h (fun xv s₁ h₁ => wpAny_mono h₁ (fun it s₂ h₂ => comp_blockG hcell hkind h₂) fun _ _ e => e) fun _ _ e => e)

/-- what the turns of a comprehension without a test must show, for any use of it -/
noncomputable def AtNG (prog : Program) (w : World) (A : Around) (env : Env) (elt : Expr) (x : Str) (px : Pos) (scope : Scope) (cl : List (Str × Addr)) (RR : Value → Addr → Result → Shared → Prop) (it : Value) (s₂ : Shared) : Prop :=
  ∃ (I : Addr) (fp wr : List Addr) (n : Nat) (P : Nat → Value → Prop) (St : Nat → Heap → Prop) (Ex : Heap → Prop),
    it = .ref I ∧ Walks prog w A I fp wr n P St ∧ St 0 s₂.heap ∧ n ≤ sizeLine ∧ (∀ i h, St i h → ∀ b ∈ fp, ∃ o, h.get? b = some o) ∧ (∀ i h, St i h → Ex h) ∧
    ∀ C D h₃, s₂.heap.get? C = none → s₂.heap.get? D = none → @Ne Nat C D → Up s₂.heap h₃ → (∃ o, h₃.get? C = some o) → h₃.get? D = some (lstOb []) →
    ∃ J : Nat → List Value → Heap → Prop, J 0 [] h₃ ∧ (∀ i ys h h', J i ys h → Kept (C :: D :: wr) h h' → (∀ b ∈ C :: D :: fp, ∃ o, h'.get? b = some o) → J i ys h') ∧
      (∀ i ys v h tk m' E', i < n → P i v → J i ys h → h.Ns C m' → h.get? D = some (lstOb ys) → (∀ b ∈ C :: D :: fp, ∃ o, h.get? b = some o) → Ex h →
        wpAny (model prog w) A (assign (.Name x px) (compEnvC scope cl C env) v) (fun _ s₃ => wpAny (model prog w) A (eval elt (compEnvC scope cl C env)) (fun y s₅ => StepC C D fp ys (J (i + 1) (ys ++ [y])) h s₂ s₅) E' s₃) E' { s₂ with heap := h, toks := tk }) ∧
      ∀ ys h h' tk, J n ys h → h.get? D = some (lstOb ys) → Kept wr h h' → ys.length ≤ n → (∃ m', h'.Ns C m') → RR (.ref D) C (.ok .next) { s₂ with heap := h', toks := tk }

/-- and where its list is what is asked -/
noncomputable def AtN (prog : Program) (w : World) (A : Around) (env : Env) (elt : Expr) (x : Str) (px : Pos) (scope : Scope) (cl : List (Str × Addr)) (E : Value → Shared → Prop) (Q : Value → Shared → Prop) (it : Value) (s₂ : Shared) : Prop := AtNG prog w A env elt x px scope cl (fun acc C => compPost (model prog w) A E none Q acc C) it s₂

theorem comp_blockNG {elt iter : Expr} {x : Str} {px : Pos} {scope : Scope} {cl : List (Str × Addr)} {pos : Pos} {s₂ : Shared} {it : Value} {RR : Value → Addr → Result → Shared → Prop}
    (hcell : ∀ y ∈ scope.names, y.2 ≠ .cell) (hkind : scope.kind = .function) (H : AtNG prog w A env elt x px scope cl RR it s₂) :
    wpAny (model prog w) A (newList []) (fun acc s₃ => wpAny (model prog w) A (newFunctionEnv scope env.globals cl [] env.qual none .none (some env)) (fun cenv s₄ =>
      codeAny (model prog w) A (.compStart (.ListComp elt [⟨.Name x px, iter, [], 0⟩] scope pos) 0 it acc { cenv with scope := relabel scope env }) (RR acc cenv.locals) s₄) E s₃) E s₂ := by
  obtain ⟨I, fp, wr, n, P, St, Ex, rfl, W, hst, hsz, ex, exE, H⟩ := H
  refine wpAny_newObj_type (wpAny_newFunctionEnv hcell (by intro y hy; simp at hy) (fun h₁ hns₁ hsb₁ => ?_) hkind)
  dsimp only at hns₁ hsb₁ ⊢
  generalize hH2 : s₂.heap.push { cls := .type "list", dict := none, data := .seq ([] : List Value).toArray } = H2 at hns₁ hsb₁ ⊢
  have hC : H2.objs.size = s₂.heap.objs.size + 1 := by rw [← hH2, Heap.size_push]
  have hDC : s₂.heap.objs.size ≠ H2.objs.size := by rw [hC]; exact Nat.ne_of_lt (Nat.lt_succ_self _)
  have below : ∀ b, b < s₂.heap.objs.size → b ≠ H2.objs.size ∧ b ≠ s₂.heap.objs.size := fun b hb => ⟨by rw [hC]; exact Nat.ne_of_lt (Nat.lt_succ_of_lt hb), Nat.ne_of_lt hb⟩
  have old : Up s₂.heap h₁ := fun b o e => hsb₁.extBut b o (below b (Heap.lt_size e)).1 (Heap.get?_push_of_some _ (hH2 ▸ Heap.get?_push_of_some _ e))
  have hacc : h₁.get? s₂.heap.objs.size = some (lstOb []) := hsb₁.extBut _ _ hDC (Heap.get?_push_of_some _ (hH2 ▸ Heap.get?_push_size _ rfl))
  have nC : s₂.heap.get? H2.objs.size = none := none_of_le (by rw [hC]; exact Nat.le_succ _)
  have nD : s₂.heap.get? s₂.heap.objs.size = none := none_of_le (Nat.le_refl _)
  have fpC : ∀ b ∈ fp, b ≠ H2.objs.size ∧ b ≠ s₂.heap.objs.size := fun b hb => by
    obtain ⟨o, e⟩ := ex 0 _ hst b hb
    exact below b (Heap.lt_size e)
  have hCf : H2.objs.size ∉ fp := fun q => (fpC _ q).1 rfl
  have hDf : s₂.heap.objs.size ∉ fp := fun q => (fpC _ q).2 rfl
  have hCw : H2.objs.size ∉ wr := fun q => hCf (W.sub _ q)
  have hDw : s₂.heap.objs.size ∉ wr := fun q => hDf (W.sub _ q)
  have hst₁ : St 0 h₁ := W.frame _ _ _ hst fun b _ o e => old b o e
  obtain ⟨J, h0, stab, step, done⟩ := H H2.objs.size s₂.heap.objs.size h₁ nC nD (Ne.symm hDC) old (ns_there hns₁) hacc
  have loop : ∀ s₃ : Shared, s₃ = { s₂ with heap := h₁, toks := s₂.toks + ([] : List (Str × Value)).length } →
      codeAny (model prog w) A (.compLoop (.ListComp elt [⟨.Name x px, iter, [], 0⟩] scope pos) 0 (.ref I) (.ref s₂.heap.objs.size) (compEnvC scope cl H2.objs.size env))
        (RR (.ref s₂.heap.objs.size) H2.objs.size) s₃ := by
    rintro s₃ rfl
    refine codeAny_compLoop_tests (fun k s' => ∃ h' tk i ys m', s' = { s₂ with heap := h', toks := tk } ∧ i ≤ n ∧ k = n + 1 - i ∧ ys.length ≤ i ∧ St i h' ∧ h'.Ns H2.objs.size m' ∧ h'.get? s₂.heap.objs.size = some (lstOb ys) ∧ J i ys h') ?_ (n + 1)
      ⟨h₁, _, 0, [], _, rfl, Nat.zero_le _, rfl, Nat.le_refl _, hst₁, hns₁, hacc, h0⟩
    rintro k s' ⟨h', tk, i, ys, m', rfl, hi, rfl, hyl, hst', hn', hD', hJ⟩
    by_cases hlt : i < n
    · refine W.item i _ _ _ hlt hst' fun v h₃ tk₂ hP hst₃ hk₃ => ?_
      have k3 : Kept wr h' h₃ := hk₃
      have hn₃ : h₃.Ns H2.objs.size m' := hn'.at' fun o e => k3 _ o hCw e
      have hD₃ := k3 _ _ hDw hD'
      have ex₃ : ∀ b ∈ H2.objs.size :: s₂.heap.objs.size :: fp, ∃ o, h₃.get? b = some o := fun b hb => by
        rcases List.mem_cons.mp hb with rfl | hb
        · exact ns_there hn₃
        · rcases List.mem_cons.mp hb with rfl | hb
          · exact ⟨_, hD₃⟩
          · exact ex _ _ hst₃ b hb
      have hJ₃ := stab i ys _ _ hJ (k3.mono fun a ha => List.mem_cons_of_mem _ (List.mem_cons_of_mem _ ha)) ex₃
      refine wpAny_mono (step i ys v h₃ tk₂ m' _ hlt hP hJ₃ hn₃ hD₃ ex₃ (exE _ _ hst₃)) (fun _ s₃ p₃ => wpAny_tests_nil ?_) fun _ _ e => e
      · simp only [if_true]
        refine wpAny_mono p₃ (fun y s₅ p₅ => ?_) fun _ _ e => e
        obtain ⟨h₅, tk₅, rfl, J₅, D₅, ⟨m₅, n₅⟩, f₅⟩ := p₅
        refine append_at (hsz := by show ys.toArray.size ≤ sizeLine; rw [List.size_toArray]; exact Nat.le_trans hyl (Nat.le_trans hi hsz)) D₅ fun h₆ hs₆ hD₆ => ?_
        have hst₅ := W.frame _ _ _ hst₃ f₅
        have hst₆ : St (i + 1) h₆ := W.frame _ _ _ hst₅ fun b hb o e => hs₆.extBut b o (fun q => hDf (q ▸ hb)) e
        have n₆ : h₆.Ns H2.objs.size m₅ := n₅.at' fun o e => hs₆.extBut _ o (Ne.symm hDC) e
        have D₆ : h₆.get? s₂.heap.objs.size = some (lstOb (ys ++ [y])) := hD₆.trans (congrArg some (LCg.lst_snoc ys y))
        refine ⟨n + 1 - (i + 1), by omega, h₆, _, i + 1, ys ++ [y], m₅, rfl, hlt, rfl, by rw [List.length_append, List.length_singleton]; exact Nat.succ_le_succ hyl, hst₆, n₆, D₆, ?_⟩
        refine stab _ _ _ _ J₅ (fun b o hb e => hs₆.extBut b o (fun q => hb (by rw [q]; exact List.mem_cons_of_mem _ List.mem_cons_self)) e) fun b hb => ?_
        rcases List.mem_cons.mp hb with rfl | hb
        · exact ns_there n₆
        · rcases List.mem_cons.mp hb with rfl | hb
          · exact ⟨_, D₆⟩
          · exact ex _ _ hst₆ b hb
    · have hin : i = n := Nat.le_antisymm hi (Nat.not_lt.mp hlt)
      subst hin
      refine W.done _ _ _ hst' fun h₂ tk₂ hk₂ => ?_
      exact done ys h' h₂ tk₂ hJ hD' hk₂ hyl ⟨m', hn'.at' fun o e => hk₂ _ o hCw e⟩
  exact codeAny_compStart_list (loop _ rfl) (W.self 0 _ _ _ hst₁ (loop _ rfl))

theorem comp_N {elt iter : Expr} {x : Str} {px : Pos} {scope : Scope} {cl : List (Str × Addr)} {pos : Pos} {Q : Value → Shared → Prop}
    (hclos : closureFor scope env = pure cl) (hcell : ∀ y ∈ scope.names, y.2 ≠ .cell) (hkind : scope.kind = .function)
    (hnames : ∀ y ∈ scope.names, y.2 = .local → scope.names.lookup y.1 = some .local)
    (h : wpAny (model prog w) A (eval iter env) (fun xv s₁ => wpAny (model prog w) A (pyIter xv) (fun it s₂ => AtN prog w A env elt x px scope cl E Q it s₂) E s₁) E s)
    (hs : ∀ x, foldedSetIterable iter env x = pure x) :
    wpAny (model prog w) A (eval (.ListComp elt [⟨.Name x px, iter, [], 0⟩] scope pos) env) Q E s := by
  rw [eval_ListComp]
  exact wpAny_comprehension_free (use := none) rfl hs hclos hkind hnames (wpAny_mono h (fun xv s₁ h₁ => wpAny_mono h₁ (fun it s₂ h₂ => comp_blockNG hcell hkind h₂) fun _ _ e => e) fun _ _ e => e)
end
section
variable {prog : Program} {w : World} {A : Around} {E : Value → Shared → Prop} {s : Shared} {env : Env}
inductive TurnsTJ (prog : Program) (w : World) (A : Around) (env : Env) (elt c target : Expr) (scope : Scope) (cl : List (Str × Addr)) (Q : Value → Shared → Prop) (s : Shared) (ls : List Addr) (n : Nat) (P : Nat → Value → Heap → Prop) (fp wr : List Addr) (h₂ : Heap) (C D : Addr) (h₃ : Heap) : Prop
  | mk (J : Nat → List Value → Heap → Prop) : (J 0 [] h₃) → ((∀ i ys h h', J i ys h → Kept (C :: D :: wr) h h' → (∀ b ∈ C :: D :: fp, ∃ o, h'.get? b = some o) → J i ys h')) → ((∀ i ys v h tk m' E', i < n → P i v h → J i ys h → h.Ns C m' → h.get? D = some (lstOb ys) → (∀ b ∈ C :: D :: fp, ∃ o, h.get? b = some o) → wpAny (model prog w) A (assign target (compEnvC scope cl C env) v) (fun _ s₃ => wpAny (model prog w) A (isTrue c (compEnvC scope cl C env) (eval c (compEnvC scope cl C env))) (fun ok s₄ => if ok = true then wpAny (model prog w) A (eval elt (compEnvC scope cl C env)) (fun y s₅ => StepC C D fp ys (J (i + 1) (ys ++ [y])) h s s₅) E' s₄ else StepC C D fp ys (J (i + 1) ys) h s s₄) E' s₃) E' { s with heap := h, toks := tk })) → (∀ ys h h' tk, J n ys h → h.get? D = some (lstOb ys) → Kept (C :: wr) h h' → ys.length ≤ n → Q (.ref D) { s with heap := h', toks := tk }) → TurnsTJ prog w A env elt c target scope cl Q s ls n P fp wr h₂ C D h₃
noncomputable def TurnsT (prog : Program) (w : World) (A : Around) (env : Env) (elt c target : Expr) (scope : Scope) (cl : List (Str × Addr)) (Q : Value → Shared → Prop) (s : Shared) (ls : List Addr) (n : Nat) (P : Nat → Value → Heap → Prop) : Prop :=
  ∀ fp wr h₂, IterOf s.heap ls fp wr h₂ → ∀ C D h₃, h₂.get? C = none → h₂.get? D = none → @Ne Nat C D → Up h₂ h₃ → (∃ o, h₃.get? C = some o) → h₃.get? D = some (lstOb []) →
    TurnsTJ prog w A env elt c target scope cl Q s ls n P fp wr h₂ C D h₃
theorem iter_list {h : Heap} {l : Addr} {vs : List Value} (hl : h.IsList l vs.toArray) : IterOf h [l] [h.objs.size, l] [h.objs.size] (h.push { cls := .type "list_iterator", data := .fields #[.ref l, .int 0 0] }) :=
  ⟨fun b hb => by
      rcases List.mem_cons.mp hb with rfl | hb
      · exact .inr (by simp)
      · exact .inl hb, fun b hb => by rw [List.mem_singleton.mp hb]; exact ⟨List.mem_cons_self, none_of_le (Nat.le_refl _)⟩, fun b o e => Heap.get?_push_of_some _ e, fun b hb => by
      rcases List.mem_cons.mp hb with rfl | hb
      · exact ⟨_, Heap.get?_push_size _ rfl⟩
      · rw [List.mem_singleton.mp hb]; obtain ⟨o, e, _⟩ := hl; exact ⟨o, Heap.get?_push_of_some _ e⟩, by simp⟩
theorem ex_list {l z : Addr} {vs : List Value} : ∀ (i : Nat) (h : Heap), (h.IsListIter z l i ∧ h.IsList l vs.toArray) → ∀ b ∈ [z, l], ∃ o, h.get? b = some o := fun i h hst b hb => by
  rcases List.mem_cons.mp hb with rfl | hb
  · obtain ⟨o, e, _⟩ := hst.1; exact ⟨o, e⟩
  · rw [List.mem_singleton.mp hb]; obtain ⟨o, e, _⟩ := hst.2; exact ⟨o, e⟩
theorem list_T {elt c target : Expr} {scope : Scope} {cl : List (Str × Addr)} {Q : Value → Shared → Prop} {l : Addr} {vs : List Value} (hh : A.handled = none) (hl : s.heap.IsList l vs.toArray) (hsz : vs.length ≤ sizeLine)
    (H : TurnsT prog w A env elt c target scope cl Q s [l] vs.length fun i v _ => vs[i]? = some v) :
    wpAny (model prog w) A (pyIter (.ref l)) (fun it s₂ => AtT prog w A env elt c target scope cl E Q it s₂) E s := by
  have hne : l ≠ s.heap.objs.size := by obtain ⟨_, e, _⟩ := hl; exact Nat.ne_of_lt (Heap.lt_size e)
  refine wpAny_pyIter_list hl ?_
  have W := Walks.list (prog := prog) (w := w) hh s.heap.objs.size l hne vs.toArray
  have T := KTurns.ofWalks (target := target) W fun i v s Q E st q => letGo_listiter st.1 q
  refine ⟨_, _, _, _, _, _, _, rfl, T, ⟨⟨_, Heap.get?_push_size _ rfl, rfl, rfl⟩, hl.at fun o e => Heap.get?_push_of_some _ e⟩, by simpa using hsz, ex_list, fun s Q E st q => W.self 0 s Q E st q, fun C D h₃ nC nD ne up eC eD => ?_⟩
  obtain ⟨J, h0, stab, step, done⟩ := H _ _ _ (iter_list hl) C D h₃ nC nD ne up eC eD
  exact ⟨J, h0, stab, fun i ys v h tk m' E' hi hP => step i ys v h tk m' E' (by simpa using hi) (by simpa using hP), fun ys h h' tk b1 b2 b3 b4 b5 => post_none b3 b5 fun h'' k => done ys h h'' tk (by simpa using b1) b2 k (by simpa using b4)⟩
inductive TurnsNFJ (prog : Program) (w : World) (A : Around) (env : Env) (elt : Expr) (x : Str) (px : Pos) (scope : Scope) (cl : List (Str × Addr)) (Q : Value → Shared → Prop) (s : Shared) (ls : List Addr) (n : Nat) (P : Nat → Value → Prop) (fp wr : List Addr) (h₂ : Heap) (C D : Addr) (h₃ : Heap) : Prop
  | mk (J : Nat → List Value → Heap → Prop) : (J 0 [] h₃) → ((∀ i ys h h', J i ys h → Kept (C :: D :: wr) h h' → (∀ b ∈ C :: D :: fp, ∃ o, h'.get? b = some o) → J i ys h')) → ((∀ i ys v h tk m' E', i < n → P i v → J i ys h → h.Ns C m' → h.get? D = some (lstOb ys) → (∀ b ∈ C :: D :: fp, ∃ o, h.get? b = some o) → (∀ b ∈ wr, ∀ o, h.get? b = some o → ∃ vs, o.data = .fields vs) → wpAny (model prog w) A (assign (.Name x px) (compEnvC scope cl C env) v) (fun _ s₃ => wpAny (model prog w) A (eval elt (compEnvC scope cl C env)) (fun y s₅ => StepC C D fp ys (J (i + 1) (ys ++ [y])) h s s₅) E' s₃) E' { s with heap := h, toks := tk })) → (∀ ys h h' tk, J n ys h → h.get? D = some (lstOb ys) → Kept (C :: wr) h h' → ys.length ≤ n → Q (.ref D) { s with heap := h', toks := tk }) → TurnsNFJ prog w A env elt x px scope cl Q s ls n P fp wr h₂ C D h₃
noncomputable def TurnsNF (prog : Program) (w : World) (A : Around) (env : Env) (elt : Expr) (x : Str) (px : Pos) (scope : Scope) (cl : List (Str × Addr)) (Q : Value → Shared → Prop) (s : Shared) (ls : List Addr) (n : Nat) (P : Nat → Value → Prop) : Prop :=
  ∀ fp wr h₂, IterOf s.heap ls fp wr h₂ → ∀ C D h₃, h₂.get? C = none → h₂.get? D = none → @Ne Nat C D → Up h₂ h₃ → (∃ o, h₃.get? C = some o) → h₃.get? D = some (lstOb []) →
    TurnsNFJ prog w A env elt x px scope cl Q s ls n P fp wr h₂ C D h₃
theorem fld_list {l z : Addr} {vs : List Value} : ∀ (i : Nat) (h : Heap), (h.IsListIter z l i ∧ h.IsList l vs.toArray) → ∀ b ∈ [z], ∀ o, h.get? b = some o → ∃ vs, o.data = .fields vs := fun i h hst b hb o e => by
  obtain ⟨o2, e2, _, hd⟩ := hst.1
  rw [List.mem_singleton.mp hb, e2] at e
  cases e
  exact ⟨_, hd⟩
theorem list_NF {elt : Expr} {x : Str} {px : Pos} {scope : Scope} {cl : List (Str × Addr)} {Q : Value → Shared → Prop} {l : Addr} {vs : List Value} (hh : A.handled = none) (hl : s.heap.IsList l vs.toArray) (hsz : vs.length ≤ sizeLine)
    (H : TurnsNF prog w A env elt x px scope cl Q s [l] vs.length fun i v => vs[i]? = some v) :
    wpAny (model prog w) A (pyIter (.ref l)) (fun it s₂ => AtN prog w A env elt x px scope cl E Q it s₂) E s := by
  have hne : l ≠ s.heap.objs.size := by obtain ⟨_, e, _⟩ := hl; exact Nat.ne_of_lt (Heap.lt_size e)
  refine wpAny_pyIter_list hl ?_
  have W := Walks.list (prog := prog) (w := w) hh s.heap.objs.size l hne vs.toArray
  refine ⟨_, _, _, _, _, _, (fun h => ∀ b ∈ [s.heap.objs.size], ∀ o, h.get? b = some o → ∃ vs, o.data = .fields vs), rfl, W, ⟨⟨_, Heap.get?_push_size _ rfl, rfl, rfl⟩, hl.at fun o e => Heap.get?_push_of_some _ e⟩, by simpa using hsz, ex_list, fld_list, fun C D h₃ nC nD ne up eC eD => ?_⟩
  obtain ⟨J, h0, stab, step, done⟩ := H _ _ _ (iter_list hl) C D h₃ nC nD ne up eC eD
  exact ⟨J, h0, stab, fun i ys v h tk m' E' hi hP j1 j2 j3 j4 j5 => step i ys v h tk m' E' (by simpa using hi) (by simpa using hP) j1 j2 j3 j4 j5, fun ys h h' tk b1 b2 b3 b4 b5 => post_none b3 b5 fun h'' k => done ys h h'' tk (by simpa using b1) b2 k (by simpa using b4)⟩
end
section
variable {prog : Program} {w : World} {A : Around} {E : Value → Shared → Prop} {s : Shared} {env : Env}
/-- what the turns of a comprehension with one test must show -/
noncomputable def AtTA (prog : Program) (w : World) (A : Around) (env : Env) (elt c target : Expr) (scope : Scope) (cl : List (Str × Addr)) (y : Str) (py : Pos) (Q : Flow → Shared → Prop) (E : Value → Shared → Prop) (it : Value) (s₂ : Shared) : Prop := AtTG prog w A env elt c target scope cl (fun acc C => compPost (model prog w) A E (some (assign (.Name y py) env)) (fun _ s' => Q .next s') acc C) it s₂

theorem comp_TA {elt iter c target : Expr} {scope : Scope} {cl : List (Str × Addr)} {pos spos : Pos} {y : Str} {py : Pos} {Q : Flow → Shared → Prop}
    (hsw : swapsWith (.ListComp elt [⟨target, iter, [c], 0⟩] scope pos) (some (.Name y py)) spos.line env = pure true)
    (hclos : closureFor scope env = pure cl) (hcell : ∀ y ∈ scope.names, y.2 ≠ .cell) (hkind : scope.kind = .function)
    (hnames : ∀ y ∈ scope.names, y.2 = .local → scope.names.lookup y.1 = some .local)
    (h : wpAny (model prog w) A (eval iter env) (fun xv s₁ => wpAny (model prog w) A (pyIter xv) (fun it s₂ => AtTA prog w A env elt c target scope cl y py Q E it s₂) E s₁) E s)
    (hs : ∀ x, foldedSetIterable iter env x = pure x) :
    wpAny (model prog w) A (exec (.Assign [.Name y py] (.ListComp elt [⟨target, iter, [c], 0⟩] scope pos) spos) env) Q E s := by
  rw [exec_Assign_Name_used _ _ _ _ hsw]
  refine wpAny_bind (wpAny_standAt (wpAny_bind ?_))
  show wpAny _ A (do let _ ← comprehension (.ListComp elt [⟨target, iter, [c], 0⟩] scope pos) scope env _ (newList []) false (eval iter env) (some (assign (.Name y py) env))) _ _ s
  refine wpAny_bind (wpAny_mono (wpAny_comprehension_free (use := some (assign (.Name y py) env)) (Q := fun _ s' => Q .next s') rfl hs hclos hkind hnames
    (wpAny_mono h (fun xv s₁ h₁ => wpAny_mono h₁ (fun it s₂ h₂ => comp_blockG hcell hkind h₂) fun _ _ e => e) fun _ _ e => e)) (fun _ s' hq => wpAny_pure (wpAny_pure hq)) fun _ _ e => e)

/-- what the turns of a comprehension without a test must show -/
noncomputable def AtNA (prog : Program) (w : World) (A : Around) (env : Env) (elt : Expr) (x : Str) (px : Pos) (scope : Scope) (cl : List (Str × Addr)) (y : Str) (py : Pos) (Q : Flow → Shared → Prop) (E : Value → Shared → Prop) (it : Value) (s₂ : Shared) : Prop := AtNG prog w A env elt x px scope cl (fun acc C => compPost (model prog w) A E (some (assign (.Name y py) env)) (fun _ s' => Q .next s') acc C) it s₂

theorem comp_NA {elt iter : Expr} {x : Str} {px : Pos} {scope : Scope} {cl : List (Str × Addr)} {pos spos : Pos} {y : Str} {py : Pos} {Q : Flow → Shared → Prop}
    (hsw : swapsWith (.ListComp elt [⟨.Name x px, iter, [], 0⟩] scope pos) (some (.Name y py)) spos.line env = pure true)
    (hclos : closureFor scope env = pure cl) (hcell : ∀ y ∈ scope.names, y.2 ≠ .cell) (hkind : scope.kind = .function)
    (hnames : ∀ y ∈ scope.names, y.2 = .local → scope.names.lookup y.1 = some .local)
    (h : wpAny (model prog w) A (eval iter env) (fun xv s₁ => wpAny (model prog w) A (pyIter xv) (fun it s₂ => AtNA prog w A env elt x px scope cl y py Q E it s₂) E s₁) E s)
    (hs : ∀ x, foldedSetIterable iter env x = pure x) :
    wpAny (model prog w) A (exec (.Assign [.Name y py] (.ListComp elt [⟨.Name x px, iter, [], 0⟩] scope pos) spos) env) Q E s := by
  rw [exec_Assign_Name_used _ _ _ _ hsw]
  refine wpAny_bind (wpAny_standAt (wpAny_bind ?_))
  show wpAny _ A (do let _ ← comprehension (.ListComp elt [⟨.Name x px, iter, [], 0⟩] scope pos) scope env _ (newList []) false (eval iter env) (some (assign (.Name y py) env))) _ _ s
  refine wpAny_bind (wpAny_mono (wpAny_comprehension_free (use := some (assign (.Name y py) env)) (Q := fun _ s' => Q .next s') rfl hs hclos hkind hnames
    (wpAny_mono h (fun xv s₁ h₁ => wpAny_mono h₁ (fun it s₂ h₂ => comp_blockNG hcell hkind h₂) fun _ _ e => e) fun _ _ e => e)) (fun _ s' hq => wpAny_pure (wpAny_pure hq)) fun _ _ e => e)
end
section
variable {prog : Program} {w : World} {A : Around} {E : Value → Shared → Prop} {s : Shared} {env : Env}
inductive TurnsTAJ (prog : Program) (w : World) (A : Around) (env : Env) (elt c target : Expr) (scope : Scope) (cl : List (Str × Addr)) (y : Str) (py : Pos) (Q : Flow → Shared → Prop) (E : Value → Shared → Prop) (s : Shared) (ls : List Addr) (n : Nat) (P : Nat → Value → Heap → Prop) (fp wr : List Addr) (h₂ : Heap) (C D : Addr) (h₃ : Heap) : Prop
  | mk (J : Nat → List Value → Heap → Prop) : (J 0 [] h₃) → ((∀ i ys h h', J i ys h → Kept (C :: D :: wr) h h' → (∀ b ∈ C :: D :: fp, ∃ o, h'.get? b = some o) → J i ys h')) → ((∀ i ys v h tk m' E', i < n → P i v h → J i ys h → h.Ns C m' → h.get? D = some (lstOb ys) → (∀ b ∈ C :: D :: fp, ∃ o, h.get? b = some o) → wpAny (model prog w) A (assign target (compEnvC scope cl C env) v) (fun _ s₃ => wpAny (model prog w) A (isTrue c (compEnvC scope cl C env) (eval c (compEnvC scope cl C env))) (fun ok s₄ => if ok = true then wpAny (model prog w) A (eval elt (compEnvC scope cl C env)) (fun y s₅ => StepC C D fp ys (J (i + 1) (ys ++ [y])) h s s₅) E' s₄ else StepC C D fp ys (J (i + 1) ys) h s s₄) E' s₃) E' { s with heap := h, toks := tk })) → (∀ ys h h' tk, J n ys h → h.get? D = some (lstOb ys) → Kept wr h h' → ys.length ≤ n → (∃ m', h'.Ns C m') → wpAny (model prog w) A (assign (.Name y py) env (.ref D)) (fun _ s' => ∃ m, s'.heap.Ns C m ∧ ∀ h'', Heap.SameBut C s'.heap h'' → Q .next { s' with heap := h'' }) E { s with heap := h', toks := tk }) → TurnsTAJ prog w A env elt c target scope cl y py Q E s ls n P fp wr h₂ C D h₃
noncomputable def TurnsTA (prog : Program) (w : World) (A : Around) (env : Env) (elt c target : Expr) (scope : Scope) (cl : List (Str × Addr)) (y : Str) (py : Pos) (Q : Flow → Shared → Prop) (E : Value → Shared → Prop) (s : Shared) (ls : List Addr) (n : Nat) (P : Nat → Value → Heap → Prop) : Prop :=
  ∀ fp wr h₂, IterOf s.heap ls fp wr h₂ → ∀ C D h₃, h₂.get? C = none → h₂.get? D = none → @Ne Nat C D → Up h₂ h₃ → (∃ o, h₃.get? C = some o) → h₃.get? D = some (lstOb []) →
    TurnsTAJ prog w A env elt c target scope cl y py Q E s ls n P fp wr h₂ C D h₃
inductive TurnsNAJ (prog : Program) (w : World) (A : Around) (env : Env) (elt : Expr) (x : Str) (px : Pos) (scope : Scope) (cl : List (Str × Addr)) (y : Str) (py : Pos) (Q : Flow → Shared → Prop) (E : Value → Shared → Prop) (s : Shared) (ls : List Addr) (n : Nat) (P : Nat → Value → Prop) (fp wr : List Addr) (h₂ : Heap) (C D : Addr) (h₃ : Heap) : Prop
  | mk (J : Nat → List Value → Heap → Prop) : (J 0 [] h₃) → ((∀ i ys h h', J i ys h → Kept (C :: D :: wr) h h' → (∀ b ∈ C :: D :: fp, ∃ o, h'.get? b = some o) → J i ys h')) → ((∀ i ys v h tk m' E', i < n → P i v → J i ys h → h.Ns C m' → h.get? D = some (lstOb ys) → (∀ b ∈ C :: D :: fp, ∃ o, h.get? b = some o) → wpAny (model prog w) A (assign (.Name x px) (compEnvC scope cl C env) v) (fun _ s₃ => wpAny (model prog w) A (eval elt (compEnvC scope cl C env)) (fun y s₅ => StepC C D fp ys (J (i + 1) (ys ++ [y])) h s s₅) E' s₃) E' { s with heap := h, toks := tk })) → (∀ ys h h' tk, J n ys h → h.get? D = some (lstOb ys) → Kept wr h h' → ys.length ≤ n → (∃ m', h'.Ns C m') → wpAny (model prog w) A (assign (.Name y py) env (.ref D)) (fun _ s' => ∃ m, s'.heap.Ns C m ∧ ∀ h'', Heap.SameBut C s'.heap h'' → Q .next { s' with heap := h'' }) E { s with heap := h', toks := tk }) → TurnsNAJ prog w A env elt x px scope cl y py Q E s ls n P fp wr h₂ C D h₃
noncomputable def TurnsNA (prog : Program) (w : World) (A : Around) (env : Env) (elt : Expr) (x : Str) (px : Pos) (scope : Scope) (cl : List (Str × Addr)) (y : Str) (py : Pos) (Q : Flow → Shared → Prop) (E : Value → Shared → Prop) (s : Shared) (ls : List Addr) (n : Nat) (P : Nat → Value → Prop) : Prop :=
  ∀ fp wr h₂, IterOf s.heap ls fp wr h₂ → ∀ C D h₃, h₂.get? C = none → h₂.get? D = none → @Ne Nat C D → Up h₂ h₃ → (∃ o, h₃.get? C = some o) → h₃.get? D = some (lstOb []) →
    TurnsNAJ prog w A env elt x px scope cl y py Q E s ls n P fp wr h₂ C D h₃

theorem list_TA {elt c target : Expr} {scope : Scope} {cl : List (Str × Addr)} {y : Str} {py : Pos} {Q : Flow → Shared → Prop} {l : Addr} {vs : List Value} (hh : A.handled = none) (hl : s.heap.IsList l vs.toArray) (hsz : vs.length ≤ sizeLine)
    (H : TurnsTA prog w A env elt c target scope cl y py Q E s [l] vs.length fun i v _ => vs[i]? = some v) :
    wpAny (model prog w) A (pyIter (.ref l)) (fun it s₂ => AtTA prog w A env elt c target scope cl y py Q E it s₂) E s := by
  have hne : l ≠ s.heap.objs.size := by obtain ⟨_, e, _⟩ := hl; exact Nat.ne_of_lt (Heap.lt_size e)
  refine wpAny_pyIter_list hl ?_
  have W := Walks.list (prog := prog) (w := w) hh s.heap.objs.size l hne vs.toArray
  have T := KTurns.ofWalks (target := target) W fun i v s Q E st q => letGo_listiter st.1 q
  refine ⟨_, _, _, _, _, _, _, rfl, T, ⟨⟨_, Heap.get?_push_size _ rfl, rfl, rfl⟩, hl.at fun o e => Heap.get?_push_of_some _ e⟩, by simpa using hsz, ex_list, fun s Q E st q => W.self 0 s Q E st q, fun C D h₃ nC nD ne up eC eD => ?_⟩
  obtain ⟨J, h0, stab, step, done⟩ := H _ _ _ (iter_list hl) C D h₃ nC nD ne up eC eD
  exact ⟨J, h0, stab, fun i ys v h tk m' E' hi hP => step i ys v h tk m' E' (by simpa using hi) (by simpa using hP), fun ys h h' tk b1 b2 b3 b4 b5 => done ys h h' tk (by simpa using b1) b2 b3 (by simpa using b4) b5⟩
inductive TurnsNFAJ (prog : Program) (w : World) (A : Around) (env : Env) (elt : Expr) (x : Str) (px : Pos) (scope : Scope) (cl : List (Str × Addr)) (y : Str) (py : Pos) (Q : Flow → Shared → Prop) (E : Value → Shared → Prop) (s : Shared) (ls : List Addr) (n : Nat) (P : Nat → Value → Prop) (fp wr : List Addr) (h₂ : Heap) (C D : Addr) (h₃ : Heap) : Prop
  | mk (J : Nat → List Value → Heap → Prop) : (J 0 [] h₃) → ((∀ i ys h h', J i ys h → Kept (C :: D :: wr) h h' → (∀ b ∈ C :: D :: fp, ∃ o, h'.get? b = some o) → J i ys h')) → ((∀ i ys v h tk m' E', i < n → P i v → J i ys h → h.Ns C m' → h.get? D = some (lstOb ys) → (∀ b ∈ C :: D :: fp, ∃ o, h.get? b = some o) → (∀ b ∈ wr, ∀ o, h.get? b = some o → ∃ vs, o.data = .fields vs) → wpAny (model prog w) A (assign (.Name x px) (compEnvC scope cl C env) v) (fun _ s₃ => wpAny (model prog w) A (eval elt (compEnvC scope cl C env)) (fun y s₅ => StepC C D fp ys (J (i + 1) (ys ++ [y])) h s s₅) E' s₃) E' { s with heap := h, toks := tk })) → (∀ ys h h' tk, J n ys h → h.get? D = some (lstOb ys) → Kept wr h h' → ys.length ≤ n → (∃ m', h'.Ns C m') → wpAny (model prog w) A (assign (.Name y py) env (.ref D)) (fun _ s' => ∃ m, s'.heap.Ns C m ∧ ∀ h'', Heap.SameBut C s'.heap h'' → Q .next { s' with heap := h'' }) E { s with heap := h', toks := tk }) → TurnsNFAJ prog w A env elt x px scope cl y py Q E s ls n P fp wr h₂ C D h₃
noncomputable def TurnsNFA (prog : Program) (w : World) (A : Around) (env : Env) (elt : Expr) (x : Str) (px : Pos) (scope : Scope) (cl : List (Str × Addr)) (y : Str) (py : Pos) (Q : Flow → Shared → Prop) (E : Value → Shared → Prop) (s : Shared) (ls : List Addr) (n : Nat) (P : Nat → Value → Prop) : Prop :=
  ∀ fp wr h₂, IterOf s.heap ls fp wr h₂ → ∀ C D h₃, h₂.get? C = none → h₂.get? D = none → @Ne Nat C D → Up h₂ h₃ → (∃ o, h₃.get? C = some o) → h₃.get? D = some (lstOb []) →
    TurnsNFAJ prog w A env elt x px scope cl y py Q E s ls n P fp wr h₂ C D h₃
theorem list_NFA {elt : Expr} {x : Str} {px : Pos} {scope : Scope} {cl : List (Str × Addr)} {y : Str} {py : Pos} {Q : Flow → Shared → Prop} {l : Addr} {vs : List Value} (hh : A.handled = none) (hl : s.heap.IsList l vs.toArray) (hsz : vs.length ≤ sizeLine)
    (H : TurnsNFA prog w A env elt x px scope cl y py Q E s [l] vs.length fun i v => vs[i]? = some v) :
    wpAny (model prog w) A (pyIter (.ref l)) (fun it s₂ => AtNA prog w A env elt x px scope cl y py Q E it s₂) E s := by
  have hne : l ≠ s.heap.objs.size := by obtain ⟨_, e, _⟩ := hl; exact Nat.ne_of_lt (Heap.lt_size e)
  refine wpAny_pyIter_list hl ?_
  have W := Walks.list (prog := prog) (w := w) hh s.heap.objs.size l hne vs.toArray
  refine ⟨_, _, _, _, _, _, (fun h => ∀ b ∈ [s.heap.objs.size], ∀ o, h.get? b = some o → ∃ vs, o.data = .fields vs), rfl, W, ⟨⟨_, Heap.get?_push_size _ rfl, rfl, rfl⟩, hl.at fun o e => Heap.get?_push_of_some _ e⟩, by simpa using hsz, ex_list, fld_list, fun C D h₃ nC nD ne up eC eD => ?_⟩
  obtain ⟨J, h0, stab, step, done⟩ := H _ _ _ (iter_list hl) C D h₃ nC nD ne up eC eD
  exact ⟨J, h0, stab, fun i ys v h tk m' E' hi hP j1 j2 j3 j4 j5 => step i ys v h tk m' E' (by simpa using hi) (by simpa using hP) j1 j2 j3 j4 j5, fun ys h h' tk b1 b2 b3 b4 b5 => done ys h h' tk (by simpa using b1) b2 b3 (by simpa using b4) b5⟩
theorem range_NA {elt : Expr} {x : Str} {px : Pos} {scope : Scope} {cl : List (Str × Addr)} {y : Str} {py : Pos} {Q : Flow → Shared → Prop} {r : Addr} {a₀ b₀ : Int} {t₀ u₀ v₀ : Tok} {n : Nat} (hh : A.handled = none) (hr : IsRange s.heap r a₀ b₀ 1 t₀ u₀ v₀) (hsmall : Builtin.Range.small a₀ b₀ 1 = true) (hn : Builtin.Range.rangeSize a₀ b₀ 1 = (n : Int)) (hsz : n ≤ sizeLine)
    (H : TurnsNA prog w A env elt x px scope cl y py Q E s [] n fun i v => ∃ t, v = .int (a₀ + i) t) :
    wpAny (model prog w) A (pyIter (.ref r)) (fun it s₂ => AtNA prog w A env elt x px scope cl y py Q E it s₂) E s := by
  refine wpAny_pyIter_range hr hsmall ?_
  have W := Walks.range (prog := prog) (w := w) hh s.heap.objs.size a₀ 1 n
  have ex : ∀ (i : Nat) (h : Heap), IsRangeIter h s.heap.objs.size (a₀ + (i : Nat) * 1) ((n : Int) - (i : Nat)) 1 → ∀ b ∈ [s.heap.objs.size], ∃ o, h.get? b = some o := fun i h hst b hb => by
    have e := List.mem_singleton.mp hb
    subst e
    exact ⟨_, hst⟩
  have hI : IsRangeIter (s.heap.push { cls := .type "range_iterator", data := .fields #[rawInt a₀, rawInt (Builtin.Range.rangeSize a₀ b₀ 1), rawInt 1] }) s.heap.objs.size a₀ (Builtin.Range.rangeSize a₀ b₀ 1) 1 := Heap.get?_push_size _ rfl
  refine ⟨_, _, _, _, _, _, fun _ => True, rfl, W, by rw [hn] at hI ⊢; simpa using hI, hsz, ex, fun _ _ _ => trivial, fun C D h₃ nC nD ne up eC eD => ?_⟩
  obtain ⟨J, h0, stab, step, done⟩ := H [s.heap.objs.size] [s.heap.objs.size] _ ⟨fun b hb => .inr hb, fun b hb => by rw [List.mem_singleton.mp hb]; exact ⟨List.mem_cons_self, none_of_le (Nat.le_refl _)⟩, fun b o e => Heap.get?_push_of_some _ e, fun b hb => by rw [List.mem_singleton.mp hb]; exact ⟨_, hI⟩, by simp⟩ C D h₃ nC nD ne up eC eD
  exact ⟨J, h0, stab, fun i ys v h tk m' E' hi ⟨t, e⟩ j1 j2 j3 j4 _ => step i ys v h tk m' E' hi ⟨t, by simpa using e⟩ j1 j2 j3 j4, done⟩
end
theorem lines_L2 : True := by
  k_with_none
  (k_with "execs cons" => (k_here; first | ((fail_if_success (fail_if_success k_gentoks)); (refine tok_letter ?_); intro tk) | ((fail_if_success (with_reducible show wpAny _ _ _ (Behind _) _ _)); (with_reducible refine Q_letter ?_); intro Q9 hQ9) | (with_reducible refine execs_one ?_) | (with_reducible refine execs_cons_L ?_; intro Q9 hQ9)))
  (k_with "Behind" => ((rename (∀ f s', _ → Behind _ f s') => hB9); first | ((with_reducible refine hB9 _ _ ?_); (try dsimp only)) | (clear hB9; k_extra "Behind")))
  (k_with "BehindE" => ((rename (∀ e s', _ → BehindE _ e s') => hB9); first | ((with_reducible refine hB9 _ _ ?_); (try dsimp only)) | (clear hB9; k_extra "BehindE")))
  (k_with "m letter" => (first | (with_reducible show wpAny _ _ _ (Behind _) (BehindE _) _) | (with_reducible show wpAny _ _ _ _ (BehindE _) _; refine Q_letter ?_; intro Q9 hQ9) | (with_reducible refine QE_letter (by passes_own) ?_; intro Q9 E9 hQ9 hE9 hP9) | (refine Q_letter ?_; intro Q9 hQ9)))
  (k_with "subscriptTail" => (k_here; (with_reducible show wpAny _ _ (subscriptTail _ _ (Value.ref _) (Value.int 0 _)) _ _ _); k_dflt (refine' tup_item0 ?tzL21 ?_ (by with_unfolding_all rfl) (by intro _; with_unfolding_all rfl); (case tzL21 => ktr_rel); k_whole)))
  (k_with "subscriptTail" => (k_here; (with_reducible show wpAny _ _ (subscriptTail _ _ (Value.ref _) (Value.int 1 _)) _ _ _); k_dflt (refine' tup_item1 ?tzL22 ?_ (by with_unfolding_all rfl) (by intro _; with_unfolding_all rfl); (case tzL22 => ktr_rel); k_whole)))
  (k_with "m k_lt" => (intro hlt9; replace hlt9 := allLt_of hlt9; dsimp only [AllLt] at hlt9; revert hlt9))
  (k_with "m k_ne" => ((refine neN ?_; (try dsimp only); first | (with_reducible assumption) | (with_reducible exact Ne.symm (by assumption)) | omega)))
  (k_with "m k_inst" => (exact inst_base (by with_reducible assumption) (by with_reducible assumption) (by with_reducible assumption)))
  (k_with "m k_room" => (((try simp only [depth_under_make, depth_under_kw, depth_in1, depth_deeper, depth_caller]); (try dsimp only [arT]); omega)))
  (k_with "m ktr_rel" => (first | exact Fr.tup (by assumption) (by assumption) | exact tup2 (by assumption) (by assumption) (by assumption) | exact tup3 (by assumption) (by assumption) (by assumption) (by assumption) | exact News.isTup (by k_asm) (by k_mem)))
  (k_with "m k_handed" => (assumption))
  trivial

set_option maxHeartbeats 16000000 in
theorem rules_h {w : World} {loose : List Str} {mean : ExcName → Option Value} {mg mb : Str → Option Value} {A₀ : Around} {dp un : Nat} {gd : Option (List Code)} {env : Env} {outer : List Env} {base h₀ : Heap} {L : Addr} {m : Str → Option Value} {s : Shared} {Q E : Value → Shared → Prop}
    (B : Below A₀ base outer h₀) (F : Fr h₀ L s.heap m) (X : (hd.heap_1 w.params).In h₀) (T : Top topProg loose mean mg mb h₀)
    (hf : env.frame = some L) (hk : env.scope.kind = .function) (hroom : dp + 4 < recursionLimit)
    (hq : ∀ D o u1 u2 u3 u4 u5 u6 h' tk', Up s.heap h' → s.heap.get? D = none → h'.get? D = some o → (D == sysModules) = false → o.IsDictOf (PySem.strKind PySem.Challenge.rw_on0310_01.row.prog w) (ruleKvs u1 u2 u3 u4 u5 u6) → Q (.ref D) { s with heap := h', toks := tk' }) :
    wpAny (model PySem.Challenge.rw_on0310_01.row.prog w) (arT dp un gd env outer) (call (.ref 194) []) Q E s := by
  revert X; k_fill; intro X
  have N : News h₀ L s.heap [] := fun p hp => by cases hp
  refine wpAny_call ?_
  k_dflt (refine' enter (binds := ([] : List (Str × Value))) B F X T N rfl hf hk ?k6 ?k7 ?k8 ?k9 ?kB ?_ ?c2 ?c3 ?c4 ?c5; (case k6 => k_is); (case k7 => k_is); (case k8 => show dp < _; omega); (case k9 => exact BindsTo.of_eq rfl); (case c5 => decide); (case kB => exact locs rfl); (case c2 => exact rfl); (case c3 => exact rfl); (case c4 => exact rfl); k_whole; intro g L' h' hg hk₁ hL' F' N' B' X' T'; (try dsimp only); (try k_fold))

  have up : Up s.heap g := fun b o e => hg b o List.not_mem_nil e
  clear hg hk₁
  ((try k_extra "m letter"); w_strict k_steps)
  (try dsimp only)
  (try k_unfold)
  (with_reducible rename Fr _ _ _ _ => kF)
  (with_reducible rename News _ _ _ _ => kN)
  exact hq _ _ _ _ _ _ _ _ _ _ (fun b o e => kF.keep _ _ (up _ _ e)) (up_none up (kN _ (.head _)).2.2) (kN _ (.head _)).1 (by assumption) (by assumption)
/-- a name's value, wherever it is read behind h -/
noncomputable def NameIs (M : Model) (A : Around) (env : Env) (x : Str) (v : Value) (h : Heap) : Prop := ∀ (px : Pos) (s : Shared) (Q E : Value → Shared → Prop), Up h s.heap → Q v s → wpAny M A (eval (.Name x px) env) Q E s
theorem NameIs.up {M : Model} {A : Around} {env : Env} {x : Str} {v : Value} {h h' : Heap} (n : NameIs M A env x v h) (k : Up h h') : NameIs M A env x v h' := fun px s Q E u q => n px s Q E (k.trans u) q
section
variable {M : Model} {A : Around} {h : Heap} {h₀ : Heap} {L C c : Addr} {m m' mg mb : Str → Option Value} {x : Str} {v : Value} {o : Obj} {scope : Scope} {cc : List (Str × Addr)} {env : Env} {K : Frag} {p : Program} {loose : List Str} {mean : ExcName → Option Value}
theorem name_C (e : h.get? C = some o) (hC : LCg.NsObj o m') (hv : m' x = some v) (hk : (compEnvC scope cc C env).scope.kind = .function := by rfl) (hl : (compEnvC scope cc C env).kindOf x = some .local := by rfl) (hd : (x == ("__debug__" : Str)) = false := by decide) :
    NameIs M A (compEnvC scope cc C env) x v h := fun px s Q E u q => ldVarK (hC.ns (u _ _ e)) hv q hk hl hd
theorem name_CC (hc : cc.lookup x = some c) (e : h.get? c = some o) (hd : o.data = .cell (some v)) (hk : (compEnvC scope cc C env).scope.kind = .function := by rfl) (hl : (compEnvC scope cc C env).kindOf x = some .cell := by rfl) (hb : (x == ("__debug__" : Str)) = false := by decide) :
    NameIs M A (compEnvC scope cc C env) x v h := fun px s Q E u q => ldCellK hc ⟨o, u _ _ e, hd⟩ q hk hl hb
theorem name_G (F : Fr h₀ L h m) (X : K.In h₀) (T : Top p loose mean mg mb h₀) (e : nsIn K mainGlobals x = some (some v)) (hg : env.globals = mainGlobals := by rfl)
    (hk : (compEnvC scope cc C env).scope.kind = .function := by rfl) (hx : (compEnvC scope cc C env).kindOf x = some .globalImplicit := by rfl) (hd : (x == ("__debug__" : Str)) = false := by decide) :
    NameIs M A (compEnvC scope cc C env) x v h := fun _ _ _ _ u q => LCgL.ld_global (F.keeps u) X T e q hg hk hx hd
end
section
variable {prog : Program} {w : World} {A : Around} {E : Value → Shared → Prop} {s : Shared} {env : Env} {x y f : Str} {px py pc pos tp kp sp : Pos} {k k2 : Nat} {b fa : Addr} {vs : List Value} {ns : List Int} {n j : Int} {t u tn : Tok} {nm lit : Str} {whole : Sem Value}
/-- x != () -/
theorem t_neUnit {Q : Bool → Shared → Prop} (hn : NameIs (model prog w) A env x (.ref b) s.heap) (hb : IsTup s.heap b vs.toArray) (hi : IntsAre vs ns) (hu : A.units + 64 < cLine)
    (h : ∀ h', Up s.heap h' → Q (decide (ns ≠ [])) { s with heap := h' }) : wpAny (model prog w) A (isTrue (.Compare (.Name x px) [.NotEq] [.Tuple [] k tp] pc) env whole) Q E s := by
  refine wpAny_isTrue_Compare1 (hn _ _ _ _ (Up.refl _) (Tuple_ (args_nil ?_))) (by with_unfolding_all rfl)
  refine wpAny_newObj_type ?_ (by show (0 : Nat) ≤ sizeLine; exact Nat.zero_le _)
  have up : Up s.heap (s.heap.push { cls := .type "tuple", data := .seq ([] : List Value).toArray }) := fun b o e => Heap.get?_push_of_some _ e
  obtain ⟨o, e1, e2, n1, e3⟩ := hb
  refine ne_dataH (reads_tuple_at (xs := ns.map PyData.int) (as := []) (up _ _ e1) e2 e3 ((ke_carried hi).reads _)) (reads_tuple_at (xs := []) (as := []) (Heap.get?_push_size _ rfl) rfl rfl ReadsAll.nil) ?_ (by decide) hu (wpAny_truthy_bool ?_)
  · simp [SeqAt.shaped, PyData.canLay0, PyData.depth, ke_canLayAll0, ke_depthAll]
  · have := h _ up
    cases ns with
    | nil => exact this
    | cons a r => exact this
/-- x[0] == y -/
theorem t_itemEq {Q : Bool → Shared → Prop} {rest : List Value} (hn : NameIs (model prog w) A env x (.ref b) s.heap) (hb : IsTup s.heap b (.int n t :: rest).toArray) (hy : NameIs (model prog w) A env y (.int j u) s.heap)
    (h : Q (n == j) { s with toks := s.toks + 1 }) : wpAny (model prog w) A (isTrue (.Compare (.Subscript (.Name x px) (.Constant (.int 0) k kp) sp) [.Eq] [.Name y py] pc) env whole) Q E s :=
  wpAny_isTrue_Compare1 (Subscript_ (hn _ _ _ _ (Up.refl _) (wpAny_Constant_int (tup_item0 hb (hy _ _ _ _ (Up.refl _) (eq_int (wpAny_truthy_bool h))) (by with_unfolding_all rfl) (by intro _; with_unfolding_all rfl))))) (by with_unfolding_all rfl)
/-- x == 'lit' -/
theorem t_eqLit {Q : Bool → Shared → Prop} (hn : NameIs (model prog w) A env x (.str nm tn) s.heap) (h : Q (nm == lit) { s with toks := s.toks + 1 }) :
    wpAny (model prog w) A (isTrue (.Compare (.Name x px) [.Eq] [.Constant (.str lit) k kp] pc) env whole) Q E s :=
  wpAny_isTrue_Compare1 (hn _ _ _ _ (Up.refl _) (Constant_str (eq_str (wpAny_truthy_bool h)))) (by with_unfolding_all rfl)
/-- (x, y) -/
theorem tuple2 {v1 v2 : Value} {Q : Value → Shared → Prop} (hx : NameIs (model prog w) A env x v1 s.heap) (hy : NameIs (model prog w) A env y v2 s.heap) (h : ∀ T h', Up s.heap h' → s.heap.get? T = none → h'.get? T = some (tupOb [v1, v2] 0) → Q (.ref T) { s with heap := h' }) :
    wpAny (model prog w) A (eval (.Tuple [.Name x px, .Name y py] k pos) env) Q E s := by
  refine Tuple_ (args_cons (hx _ _ _ _ (Up.refl _) (args_cons (hy _ _ _ _ (Up.refl _) (args_nil ?_)))))
  refine wpAny_newObj_type ?_ (by show (2 : Nat) ≤ sizeLine; rw [sizeLine_eq]; decide)
  exact h _ _ (fun b o e => Heap.get?_push_of_some _ e) (none_of_le (Nat.le_refl _)) (Heap.get?_push_size _ rfl)
/-- a call that gives a new dict of texts -/
noncomputable def GivesDict (prog : Program) (w : World) (A : Around) (E : Value → Shared → Prop) (fa : Addr) (s : Shared) (P : List (Str × Value) → Prop) : Prop :=
  ∀ Q : Value → Shared → Prop, (∀ D o kvs h' tk, Up s.heap h' → s.heap.get? D = none → h'.get? D = some o → (D == sysModules) = false → o.IsDictOf (PySem.strKind prog w) kvs → P kvs → Q (.ref D) { s with heap := h', toks := tk }) → wpAny (model prog w) A (call (.ref fa) []) Q E s
theorem call0_K {K : Frag} {Q : Value → Shared → Prop} (X : K.In s.heap) (hk : keepIn K (.ref fa) = true) (hf : NameIs (model prog w) A env f (.ref fa) s.heap) (h : wpAny (model prog w) A (call (.ref fa) []) Q E s) :
    wpAny (model prog w) A (eval (.Call (.Name f px) [] [] pos) env) Q E s :=
  Call_ (hf _ _ _ _ (Up.refl _) (callWith_K0 X hk h))
/-- x in f() -/
theorem t_inCall {K : Frag} {Q : Bool → Shared → Prop} {bb : Bool} (hn : NameIs (model prog w) A env x (.str nm tn) s.heap) (hf : NameIs (model prog w) A env f (.ref fa) s.heap) (X : K.In s.heap) (hk : keepIn K (.ref fa) = true)
    (hc : GivesDict prog w A E fa s fun kvs => (valueAt kvs nm).isSome = bb) (h : ∀ h' tk, Up s.heap h' → Q bb { s with heap := h', toks := tk }) :
    wpAny (model prog w) A (isTrue (.Compare (.Name x px) [.In] [.Call (.Name f py) [] [] pos] pc) env whole) Q E s := by
  refine wpAny_isTrue_Compare1 (hn _ _ _ _ (Up.refl _) (call0_K X hk hf (hc _ fun D o kvs h' tk up _ eD lD iD hP => ?_))) (by with_unfolding_all rfl)
  have hD : h'.DictOf (PySem.strKind prog w) D kvs := Heap.dictOf_iff.mpr ⟨o, eD, iD⟩
  refine wpAny_in_of (s := { s with heap := h', toks := tk }) (strKind_is prog w nm tn) lD (Heap.DictOf.mapOf hD) ?_
  exact wpAny_truthy_bool (by rw [hP]; exact h h' _ up)
/-- f()[x] -/
theorem t_itemCall {K : Frag} {Q : Value → Shared → Prop} {r : Str} (hn : ∀ h', Up s.heap h' → NameIs (model prog w) A env x (.str nm tn) h') (hf : NameIs (model prog w) A env f (.ref fa) s.heap) (X : K.In s.heap) (hk : keepIn K (.ref fa) = true)
    (hc : GivesDict prog w A E fa s fun kvs => ∃ u, valueAt kvs nm = some (.str r u)) (h : ∀ h' tk u, Up s.heap h' → Q (.str r u) { s with heap := h', toks := tk }) :
    wpAny (model prog w) A (eval (.Subscript (.Call (.Name f py) [] [] pos) (.Name x px) sp) env) Q E s := by
  refine Subscript_ (call0_K X hk hf (hc _ fun D o kvs h' tk up _ eD lD iD hP => ?_))
  obtain ⟨u, hu⟩ := hP
  have hD : h'.DictOf (PySem.strKind prog w) D kvs := Heap.dictOf_iff.mpr ⟨o, eD, iD⟩
  refine hn h' up _ { s with heap := h', toks := tk } _ _ (Up.refl _) (kba_turn (value' := PySem.Expr.Name (PySem.Str.ofString "_") ⟨0, 0, 0, 0⟩) (fun _ => rfl) ?_)
  exact subscriptTail_builtin (s := { s with heap := h', toks := tk }) hD.typeIs slot_dict_getitem.lookup (wpAny_getItem_of (s := { s with heap := h', toks := tk }) (strKind_is prog w nm tn) hD.mapOf hu (h h' _ u up)) (by with_unfolding_all rfl) (by intro _; with_unfolding_all rfl)
end
/-- _law_rules gives such a dict -/
theorem rules_G {w : World} {loose : List Str} {mean : ExcName → Option Value} {mg mb : Str → Option Value} {A₀ : Around} {dp un : Nat} {gd : Option (List Code)} {env : Env} {outer : List Env} {base h₀ : Heap} {L : Addr} {m : Str → Option Value} {s : Shared} {E : Value → Shared → Prop} {op : Op}
    (B : Below A₀ base outer h₀) (F : Fr h₀ L s.heap m) (X : (hd.heap_1 w.params).In h₀) (T : Top topProg loose mean mg mb h₀) (hf : env.frame = some L) (hk : env.scope.kind = .function) (hroom : dp + 4 < recursionLimit) :
    GivesDict PySem.Challenge.rw_on0310_01.row.prog w (arT dp un gd env outer) E 194 s (fun kvs => (valueAt kvs op.name).isSome = (ruleOf op).isSome) ∧
    ∀ x, ruleOf op = some x → GivesDict PySem.Challenge.rw_on0310_01.row.prog w (arT dp un gd env outer) E 194 s (fun kvs => ∃ u, valueAt kvs op.name = some (.str x u)) := by
  constructor
  · intro Q hq
    refine rules_h B F X T hf hk hroom fun D o u1 u2 u3 u4 u5 u6 h' tk' up nD eD lD iD => hq D o _ h' tk' up nD eD lD iD ?_
    have := rule_at (u1 := u1) (u2 := u2) (u3 := u3) (u4 := u4) (u5 := u5) (u6 := u6) op
    revert this
    cases ruleOf op with
    | none => intro e; exact congrArg Option.isSome (show valueAt (ruleKvs u1 u2 u3 u4 u5 u6) op.name = none from e)
    | some x => rintro ⟨u, e⟩; exact congrArg Option.isSome e
  · intro x hx Q hq
    refine rules_h B F X T hf hk hroom fun D o u1 u2 u3 u4 u5 u6 h' tk' up nD eD lD iD => hq D o _ h' tk' up nD eD lD iD ?_
    have := rule_at (u1 := u1) (u2 := u2) (u3 := u3) (u4 := u4) (u5 := u5) (u6 := u6) op
    rw [hx] at this; exact this
section
variable {prog : Program} {w : World} {A : Around} {E : Value → Shared → Prop} {s : Shared} {l : Addr} {vs : List Value} {v : Value} {value slice : PySem.Expr} {u : Tok}
theorem last_item {Q : Value → Shared → Prop} (hl : s.heap.IsList l (vs ++ [v]).toArray) (h : Q v s)
    (hs : subscripted slice false (.ref l) (.int (-1) u) = operate [.ref l, .int (-1) u] (getItem (.ref l) (.int (-1) u))) (hg : ∀ r, letTemporaryGo value (.ref l) r = pure ()) :
    wpAny (model prog w) A (subscriptTail value slice (.ref l) (.int (-1) u)) Q E s :=
  subscriptTail_builtin hl.typeIs slot_list_getitem.lookup (wpAny_getItem_list_neg hl (by decide) (by simp; omega) (by decide) (by
    have e : ((-1 : Int) + ((vs ++ [v]).toArray.size : Int)).toNat = vs.length := by simp; omega
    rw [e]; simp) h) hs hg
theorem tlen {Q : Value → Shared → Prop} (ht : IsTup s.heap l vs.toArray) (hf : vs.length < 100) (h : Q (.int (vs.length : Nat) (s.toks + 1)) { s with toks := s.toks + 1 + 1 }) : wpAny (model prog w) A (call (.builtin "len") [.ref l]) Q E s :=
  len_tuple ht (by rw [List.size_toArray]; omega) (by rw [List.size_toArray]; exact h)
theorem tlen1 {v1 : Value} {Q : Value → Shared → Prop} (ht : IsTup s.heap l [v1].toArray) (h : Q (.int 1 (s.toks + 1)) { s with toks := s.toks + 1 + 1 }) : wpAny (model prog w) A (call (.builtin "len") [.ref l]) Q E s := tlen ht (by show _ < _; simp) h
theorem tlen2 {v1 v2 : Value} {Q : Value → Shared → Prop} (ht : IsTup s.heap l [v1, v2].toArray) (h : Q (.int 2 (s.toks + 1)) { s with toks := s.toks + 1 + 1 }) : wpAny (model prog w) A (call (.builtin "len") [.ref l]) Q E s := tlen ht (by show _ < _; simp) h
end
section
variable {M : Model} {A : Around} {h : Heap} {h₀ : Heap} {L a c : Addr} {m mg mb : Str → Option Value} {x cn : Str} {v : Value} {o : Obj} {cs : Scope} {ccd : Value} {cl : List (Str × Addr)} {K : Frag} {p : Program} {loose : List Str} {mean : ExcName → Option Value}
theorem name_L (F : Fr h₀ L h m) (hv : m x = some v) (hk : cs.kind = .function := by rfl) (hx : (envX cn cs L a ccd cl).kindOf x = some .local := by rfl) (hd : (x == ("__debug__" : Str)) = false := by decide) : NameIs M A (envX cn cs L a ccd cl) x v h :=
  fun _ _ _ _ u q => nameX_L (F.keeps u) hv q hk hx hd
theorem name_LG (F : Fr h₀ L h m) (X : K.In h₀) (T : Top p loose mean mg mb h₀) (e : nsIn K mainGlobals x = some (some v)) (hk : cs.kind = .function := by rfl) (hx : (envX cn cs L a ccd cl).kindOf x = some .globalImplicit := by rfl) (hd : (x == ("__debug__" : Str)) = false := by decide) : NameIs M A (envX cn cs L a ccd cl) x v h :=
  fun _ _ _ _ u q => nameX_K (F.keeps u) X (topRead_of T) e q hk hx hd
end
theorem led3 {g h : Heap} {L a b c : Addr} {oa ob oc : Obj} (e1 : h.get? a = some oa) (n1 : a ≠ L) (g1 : g.get? a = none) (e2 : h.get? b = some ob) (n2 : b ≠ L) (g2 : g.get? b = none) (e3 : h.get? c = some oc) (n3 : c ≠ L) (g3 : g.get? c = none) : ∃ own, own = restOf g h L [a, b, c] ∧ OwnOff own [a, b, c] ∧ News g L h ((a, oa) :: (b, ob) :: (c, oc) :: own) := by
  refine ⟨_, rfl, rest_off, fun p hp => ?_⟩
  rcases List.mem_cons.mp hp with rfl | hp
  · exact ⟨e1, n1, g1⟩
  · rcases List.mem_cons.mp hp with rfl | hp
    · exact ⟨e2, n2, g2⟩
    · rcases List.mem_cons.mp hp with rfl | hp
      · exact ⟨e3, n3, g3⟩
      · obtain ⟨h1, h2, _, h4⟩ := mem_restOf.mp hp
        exact ⟨h1, h2, h4⟩
theorem tup_restA {g h h9 : Heap} {L b : Addr} {m m0 : Str → Option Value} {own led : List (Addr × Obj)} {items : Array Value} {as : List Addr} (F : Fr g L h9 m) (N : News g L h9 led) (F0 : Fr g L h m0 ∧ True) (hown : own = restOf g h L as) (hn : b ∉ as) (ht : IsTup h b items) (sub : ∀ p ∈ own, p ∈ led) : IsTup h9 b items := by
  have k := rest_kept F0.1 F N (fun p hp => sub p (hown ▸ hp))
  have hne := ns_ne_tup F0.1 ht
  obtain ⟨o, e, r⟩ := ht
  exact ⟨o, k _ _ (by rw [List.mem_cons, not_or]; exact ⟨hne, hn⟩) e, r⟩
theorem cfa_keep {h h' : Heap} {as : List Addr} {v : Value} {c : Cfa} (k : Kept as h h') (hn : ∀ a ∈ as, ∀ vs n, h.get? a ≠ some (tupOb vs n)) (x : CfaIn h v c) : CfaIn h' v c := by
  cases x with
  | nil => exact .nil
  | pair e => exact .pair (k _ _ (fun q => hn _ q _ _ e) e)
theorem store_nm {prog : Program} {w : World} {A : Around} {E : Value → Shared → Prop} {s : Shared} {env : Env} {g : Heap} {L : Addr} {m : Str → Option Value} {y : Str} {py : Pos} {v : Value} {G : Unit → Shared → Prop} (F : Fr g L s.heap m) (hL : env.locals = L) (hy : env.kindOf y = some .local) (hp : (env.scope.kind == .class || (env.scope.kind == .module && env.locals != env.globals)) = false)
    (hq : ∀ h₁, Fr g L h₁ (fun z => if z = y then some v else m z) → Kept [L] s.heap h₁ → G () { s with heap := h₁, toks := s.toks + 1 }) : wpAny (model prog w) A (assign (.Name y py) env v) G E s := by
  subst hL
  exact wpAny_assign_Name (wpAny_storeName_local hy F.ns (fun h₁ hn₁ hs₁ => hq h₁ (F.set hn₁ hs₁) fun b o hb e => hs₁.extBut b o (fun q => hb (List.mem_singleton.mpr q)) e) hp)
theorem store_fin {g h h₁ : Heap} {L C : Addr} {m : Str → Option Value} (F : Fr g L h₁ m) (exC : ∃ m', h.Ns C m') (k : Kept [L] h h₁) (neC : C ≠ L) (gC : g.get? C = none) : ∃ m', h₁.Ns C m' ∧ ∀ h2, Heap.SameBut C h₁ h2 → Fr g L h2 m ∧ Kept [L, C] h h2 := by
  obtain ⟨m', hC⟩ := exC
  refine ⟨m', hC.at' fun o e => k C o (fun q => neC (List.mem_singleton.mp q)) e, fun h2 hs => ⟨F.change hs neC gC, fun b o hb e => ?_⟩⟩
  exact hs.extBut b o (fun q => hb (by rw [q]; exact List.mem_cons_of_mem _ List.mem_cons_self)) (k b o (fun q => hb (by rw [List.mem_singleton.mp q]; exact List.mem_cons_self)) e)
section
variable {prog : Program} {w : World} {A : Around} {E : Value → Shared → Prop} {s : Shared} {h₀ : Heap} {L t b : Addr} {m : Str → Option Value} {news : List (Addr × Obj)} {x1 y1 y2 : Value}
/-- (x,) + (y, z) -/
theorem tadd_K {Q : Value → Shared → Prop} (F : Fr h₀ L s.heap m) (N : News h₀ L s.heap news) (ht : IsTup s.heap t [x1].toArray) (hb : IsTup s.heap b [y1, y2].toArray)
    (h : ∀ D h', Fr h₀ L h' m → News h₀ L h' ((D, tupOb [x1, y1, y2] 0) :: news) → (∀ p ∈ news, p.1 < D) → Q (.ref D) { s with heap := h' }) : wpAny (model prog w) A (binaryOp .Add (.ref t) (.ref b)) Q E s :=
  kde_addT F N ht hb (by simp) (by simp) (by simp) rfl h
end
theorem pick_upto1 {vs : List Value} {n : Nat} : (slicePick vs.toArray none (some ((n : Int) + 1)) none).toList = vs.take (n + 1) := pick_upto (n := n + 1)
section
variable {prog : Program} {w : World} {A : Around} {E : Value → Shared → Prop} {s : Shared} {env : Env} {x y : Str} {px py pc kp sp : Pos} {k : Nat} {b : Addr} {n j : Int} {t u : Tok} {whole : Sem Value}
/-- x[0] <= y -/
theorem t_itemLe {Q : Bool → Shared → Prop} {rest : List Value} (hn : NameIs (model prog w) A env x (.ref b) s.heap) (hb : IsTup s.heap b (.int n t :: rest).toArray) (hy : NameIs (model prog w) A env y (.int j u) s.heap)
    (h : Q (decide (n ≤ j)) { s with toks := s.toks + 1 }) : wpAny (model prog w) A (isTrue (.Compare (.Subscript (.Name x px) (.Constant (.int 0) k kp) sp) [.LtE] [.Name y py] pc) env whole) Q E s :=
  wpAny_isTrue_Compare1 (Subscript_ (hn _ _ _ _ (Up.refl _) (wpAny_Constant_int (tup_item0 hb (hy _ _ _ _ (Up.refl _) (le_int (wpAny_truthy_bool h))) (by with_unfolding_all rfl) (by intro _; with_unfolding_all rfl))))) (by with_unfolding_all rfl)
/-- one name of a comprehension's block -/
theorem single_C {scope : Scope} {cc : List (Str × Addr)} {C : Addr} {m : Str → Option Value} {v : Value} {Q : Unit → Shared → Prop} (hns : s.heap.Ns C m)
    (h : ∀ h' tk oC m', h'.get? C = some oC → LCg.NsObj oC m' → m' x = some v → Kept [C] s.heap h' → Q () { s with heap := h', toks := tk })
    (hk : (compEnvC scope cc C env).scope.kind = .function := by rfl) (hx : (compEnvC scope cc C env).kindOf x = some .local := by rfl) :
    wpAny (model prog w) A (assign (.Name x px) (compEnvC scope cc C env) v) Q E s := by
  have hp : ((compEnvC scope cc C env).scope.kind == .class || ((compEnvC scope cc C env).scope.kind == .module && (compEnvC scope cc C env).locals != (compEnvC scope cc C env).globals)) = false := by rw [hk]; rfl
  refine assign_Name (wpAny_storeName_local hx hns (fun h2 n2 s2 => ?_) hp)
  obtain ⟨oC, eC, hC⟩ := LCg.ns_obj n2
  refine h h2 _ oC _ eC hC ?_ fun b o hb e => s2.extBut b o (fun q => hb (List.mem_singleton.mpr q)) e
  show (if x = x then some v else m x) = some v
  rw [if_pos rfl]
end
section
variable {prog : Program} {w : World} {A₀ A : Around} {s : Shared} {base h₀ : Heap} {outer : List Env} {L : Addr} {m mg mb : Str → Option Value} {env : Env} {news : List (Addr × Obj)} {K : Frag} {p : Program} {loose : List Str} {mean : ExcName → Option Value}
  {Q E : Value → Shared → Prop} {name qual : Str} {params : Arguments} {body : List Stmt} {scope : Scope} {dV kV doc pm cdv ct oc : Value} {an od : Option Addr} {osl : Array (Option Value)} {f : Addr} {args : List Value} {binds : List (Str × Value)}
/-- into a def: what is asked behind it stands as letters -/
theorem enter2 (B : Below A₀ base outer h₀) (F : Fr h₀ L s.heap m) (X₀ : K.In h₀) (T : Top p loose mean mg mb h₀) (N : News h₀ L s.heap news)
    (hA : A.frames = some (env :: outer)) (hf : env.frame = some L) (hke : env.scope.kind = .function)
    (ho : K.lookup f = some ⟨oc, od, .func (fnOf name qual params body scope dV kV doc pm an cdv ct), osl⟩) (hcd : codeIn K cdv qual = true) (hroom : A.depth < recursionLimit)
    (hbind : BindsTo s (fnOf name qual params body scope dV kV doc pm an cdv ct) ⟨args, []⟩ binds) (hloc : ∀ y ∈ binds, scope.names.lookup y.1 = some .local)
    (h : ∀ g L' h₁ tk (QQ : Flow → Shared → Prop) (EE : Value → Shared → Prop), (∀ b o, b ∉ news.map (·.1) → s.heap.get? b = some o → g.get? b = some o) → (∀ b o, s.heap.get? b = some o → h₁.get? b = some o) → s.heap.get? L' = none →
      Fr g L' h₁ (fun y => binds.reverse.lookup y) → News g L' h₁ news → Below A base (env :: outer) g → K.In g → Top p loose mean mg mb g →
      (∀ v s', Q v s' → QQ (.ret v) s') → (∀ s', Q .none s' → QQ .next s') →
      (∀ e s', wpAny (model prog w) (A.deeper (envOf qual scope L' f cdv)) (leaving (envOf qual scope L' f cdv) e) (fun _ s'' => E e s'') (fun e' s'' => E e' s'') s' → EE e s') → PassesOwn (model prog w) (A.deeper (envOf qual scope L' f cdv)) (envOf qual scope L' f cdv) EE →
      wpAny (model prog w) (A.deeper (envOf qual scope L' f cdv)) (execs body (envOf qual scope L' f cdv)) QQ EE { s with heap := h₁, toks := tk })
    (hco : scope.isCoroutine = false) (hgen : scope.isGenerator = false) (hk : scope.kind = .function) (hcell : ∀ x ∈ scope.names, x.2 ≠ .cell) : wpAny (model prog w) A (call (.ref f) args) Q E s :=
  wpAny_call (enter B F X₀ T N hA hf hke ho hcd hroom hbind hloc (fun g L' h₁ a1 a2 a3 a4 a5 a6 a7 a8 => h g L' h₁ _ _ _ a1 a2 a3 a4 a5 a6 a7 a8 (fun _ _ q => q) (fun _ q => q) (fun _ _ q => q) (by passes_own)) hco hgen hk hcell)
theorem enterC2 (B : Below A₀ base outer h₀) (F : Fr h₀ L s.heap m) (X₀ : K.In h₀) (T : Top p loose mean mg mb h₀) (N : News h₀ L s.heap news)
    (hA : A.frames = some (env :: outer)) (hf : env.frame = some L) (hke : env.scope.kind = .function)
    (ho : K.lookup f = some ⟨oc, od, .func (fnOf name qual params body scope dV kV doc pm an cdv ct), osl⟩) (hcd : codeIn K cdv qual = true) (hroom : A.depth < recursionLimit)
    (hbind : BindsTo s (fnOf name qual params body scope dV kV doc pm an cdv ct) ⟨args, []⟩ binds) (hkind : (binds.all fun y => scope.names.lookup y.1 == some .local || scope.names.lookup y.1 == some .cell) = true)
    (hnd : ((cellsFrom 0 scope.names []).map (·.1)).Nodup)
    (h : ∀ g L' h₁ tk cells (QQ : Flow → Shared → Prop) (EE : Value → Shared → Prop), (∀ b o, b ∉ news.map (·.1) → s.heap.get? b = some o → g.get? b = some o) → (∀ b o, s.heap.get? b = some o → h₁.get? b = some o) → s.heap.get? L' = none →
      Fr g L' h₁ (bindL (envOfC qual scope L' f cdv).kindOf binds fun _ => none) → News g L' h₁ (cells ++ news) →
      CellsAre (bindC (envOfC qual scope L' f cdv).kindOf binds fun _ => none) (cellsFrom (L' + 1) scope.names []) cells → Below A base (env :: outer) g → K.In g → Top p loose mean mg mb g → (∀ p ∈ news, p.1 < L') →
      (∀ v s', Q v s' → QQ (.ret v) s') → (∀ s', Q .none s' → QQ .next s') →
      (∀ e s', wpAny (model prog w) (A.deeper (envOfC qual scope L' f cdv)) (leaving (envOfC qual scope L' f cdv) e) (fun _ s'' => E e s'') (fun e' s'' => E e' s'') s' → EE e s') → PassesOwn (model prog w) (A.deeper (envOfC qual scope L' f cdv)) (envOfC qual scope L' f cdv) EE →
      wpAny (model prog w) (A.deeper (envOfC qual scope L' f cdv)) (execs body (envOfC qual scope L' f cdv)) QQ EE { s with heap := h₁, toks := tk })
    (hco : scope.isCoroutine = false) (hgen : scope.isGenerator = false) (hk : scope.kind = .function) : wpAny (model prog w) A (call (.ref f) args) Q E s :=
  wpAny_call (enterC B F X₀ T N hA hf hke ho hcd hroom hbind hkind hnd (fun g L' h₁ tk cells a1 a2 a3 a4 a5 a6 a7 a8 a9 a10 => h g L' h₁ tk cells _ _ a1 a2 a3 a4 a5 a6 a7 a8 a9 a10 (fun _ _ q => q) (fun _ q => q) (fun _ _ q => q) (by passes_own)) hco hgen hk)
end
section
variable {prog : Program} {w : World} {A : Around} {E : Value → Shared → Prop} {s : Shared} {env : Env} {target : Expr} {body : List Stmt} {Q : Flow → Shared → Prop}
/-- what a loop's turns must show; what is asked behind a turn stands as letters -/
inductive TurnsKJ (prog : Program) (w : World) (A : Around) (env : Env) (target : Expr) (body : List Stmt) (Q : Flow → Shared → Prop) (E : Value → Shared → Prop) (s : Shared) (ls : List Addr) (n : Nat) (P : Nat → Value → Heap → Prop) (fp wr : List Addr) (h' : Heap) : Prop
  | mk (J : Nat → Heap → Prop) : (J 0 h') → ((∀ i h h', J i h → Kept wr h h' → (∀ b ∈ fp, ∃ o, h'.get? b = some o) → J i h')) → ((∀ i v h tk (KK : Flow → Shared → Prop), i < n → P i v h → J i h → (∀ b ∈ fp, ∃ o, h.get? b = some o) → (∀ h' tk', J (i + 1) h' → (∀ b ∈ fp, ∀ o, h.get? b = some o → h'.get? b = some o) → KK .next { s with heap := h', toks := tk' } ∧ KK .cont { s with heap := h', toks := tk' }) → (∀ v s', Q (.ret v) s' → KK (.ret v) s') → wpAny (model prog w) A (assign target env v) (fun _ s₃ => wpAny (model prog w) A (execs body env) KK E s₃) E { s with heap := h, toks := tk })) → (∀ h h' tk, J n h → Kept wr h h' → Q .next { s with heap := h', toks := tk }) → TurnsKJ prog w A env target body Q E s ls n P fp wr h'
noncomputable def TurnsK (prog : Program) (w : World) (A : Around) (env : Env) (target : Expr) (body : List Stmt) (Q : Flow → Shared → Prop) (E : Value → Shared → Prop) (s : Shared) (ls : List Addr) (n : Nat) (P : Nat → Value → Heap → Prop) : Prop :=
  ∀ fp wr h', IterOf s.heap ls fp wr h' → TurnsKJ prog w A env target body Q E s ls n P fp wr h'
theorem TurnsK.turns {ls : List Addr} {n : Nat} {P : Nat → Value → Heap → Prop} (H : TurnsK prog w A env target body Q E s ls n P) : TurnsH prog w A env target body Q E s ls n P := fun fp wr h' it => by
  obtain ⟨J, h0, stab, step, done⟩ := H fp wr h' it
  exact ⟨J, h0, stab, fun i v h tk hi hP hJ ex => step i v h tk _ hi hP hJ ex (fun h' tk' hJ' hf => ⟨⟨h', tk', rfl, hJ', hf⟩, ⟨h', tk', rfl, hJ', hf⟩⟩) (fun _ _ q => q), done⟩
/-- the same, where it is known that the iterator's objects are no tuples -/
inductive TurnsKEJ (prog : Program) (w : World) (A : Around) (env : Env) (target : Expr) (body : List Stmt) (Q : Flow → Shared → Prop) (E : Value → Shared → Prop) (s : Shared) (ls : List Addr) (n : Nat) (P : Nat → Value → Heap → Prop) (fp wr : List Addr) (h' : Heap) : Prop
  | mk (J : Nat → Heap → Prop) : (J 0 h') → ((∀ i h h', J i h → (∀ b ∈ wr, ∀ o, h.get? b = some o → o.cls ≠ .type "tuple") → Kept wr h h' → (∀ b ∈ fp, ∃ o, h'.get? b = some o) → (∀ b ∈ wr, ∀ o, h'.get? b = some o → o.cls ≠ .type "tuple") → J i h')) → ((∀ i v h tk (KK : Flow → Shared → Prop), i < n → P i v h → J i h → (∀ b ∈ fp, ∃ o, h.get? b = some o) → (∀ b ∈ wr, ∀ o, h.get? b = some o → o.cls ≠ .type "tuple") → (∀ h' tk', J (i + 1) h' → (∀ b ∈ fp, ∀ o, h.get? b = some o → h'.get? b = some o) → KK .next { s with heap := h', toks := tk' } ∧ KK .cont { s with heap := h', toks := tk' }) → (∀ v s', Q (.ret v) s' → KK (.ret v) s') → wpAny (model prog w) A (assign target env v) (fun _ s₃ => wpAny (model prog w) A (execs body env) KK E s₃) E { s with heap := h, toks := tk })) → (∀ h h' tk, J n h → Kept wr h h' → Q .next { s with heap := h', toks := tk }) → TurnsKEJ prog w A env target body Q E s ls n P fp wr h'
noncomputable def TurnsKE (prog : Program) (w : World) (A : Around) (env : Env) (target : Expr) (body : List Stmt) (Q : Flow → Shared → Prop) (E : Value → Shared → Prop) (s : Shared) (ls : List Addr) (n : Nat) (P : Nat → Value → Heap → Prop) : Prop :=
  ∀ fp wr h', IterOf s.heap ls fp wr h' → TurnsKEJ prog w A env target body Q E s ls n P fp wr h'
theorem TurnsKE.turns {ls : List Addr} {n : Nat} {P : Nat → Value → Heap → Prop} (H : TurnsKE prog w A env target body Q E s ls n P) : TurnsE prog w A env target body Q E s ls n P := fun fp wr h' it => by
  obtain ⟨J, h0, stab, step, done⟩ := H fp wr h' it
  exact ⟨J, h0, stab, fun i v h tk hi hP hJ ex nt => step i v h tk _ hi hP hJ ex nt (fun h' tk' hJ' hf => ⟨⟨h', tk', rfl, hJ', hf⟩, ⟨h', tk', rfl, hJ', hf⟩⟩) (fun _ _ q => q), done⟩
/-- a statement's ways meet behind it -/
theorem join_cut {st : Stmt} {rest : List Stmt} {Jm : Shared → Prop} (h1 : wpAny (model prog w) A (exec st env) (fun f s' => match f with | .next => Held (Jm s') | f => Q f s') E s) (h2 : ∀ s', Jm s' → wpAny (model prog w) A (execs rest env) Q E s') : wpAny (model prog w) A (execs (st :: rest) env) Q E s :=
  wpAny_execs_cons (wpAny_mono h1 (fun f s' h => by
    cases f with
    | next => exact h2 s' h
    | _ => exact h) fun _ _ e => e)
end
theorem lines_L3 : True := by
  k_with_none
  (k_with "execs cons" => (k_here; first | ((fail_if_success (fail_if_success k_gentoks)); (refine tok_letter ?_); intro tk) | ((fail_if_success (with_reducible show wpAny _ _ _ (Behind _) _ _)); (with_reducible refine Q_letter ?_); intro Q9 hQ9) | (with_reducible refine execs_one ?_) | (with_reducible refine execs_cons_L ?_; intro Q9 hQ9)))
  (k_with "Behind" => ((rename (∀ f s', _ → Behind _ f s') => hB9); first | ((with_reducible refine hB9 _ _ ?_); (try dsimp only)) | (clear hB9; k_extra "Behind")))
  (k_with "BehindE" => ((rename (∀ e s', _ → BehindE _ e s') => hB9); first | ((with_reducible refine hB9 _ _ ?_); (try dsimp only)) | (clear hB9; k_extra "BehindE")))
  (k_with "m letter" => (first | (with_reducible show wpAny _ _ _ (Behind _) (BehindE _) _) | (with_reducible show wpAny _ _ _ _ (BehindE _) _; refine Q_letter ?_; intro Q9 hQ9) | (with_reducible refine QE_letter (by passes_own) ?_; intro Q9 E9 hQ9 hE9 hP9) | (refine Q_letter ?_; intro Q9 hQ9)))
  (k_with "subscriptTail" => (k_here; (with_reducible show wpAny _ _ (subscriptTail _ _ (Value.ref _) (Value.int 0 _)) _ _ _); k_dflt (refine' tup_item0 ?tzL31 ?_ (by with_unfolding_all rfl) (by intro _; with_unfolding_all rfl); (case tzL31 => ktr_rel); k_whole)))
  (k_with "subscriptTail" => (k_here; (with_reducible show wpAny _ _ (subscriptTail _ _ (Value.ref _) (Value.int 1 _)) _ _ _); k_dflt (refine' tup_item1 ?tzL32 ?_ (by with_unfolding_all rfl) (by intro _; with_unfolding_all rfl); (case tzL32 => ktr_rel); k_whole)))
  (k_with "compareOp Eq str str" => (k_here; (with_reducible refine str_eqF (by assumption) ?_)))
  (k_with "newTuple" => (k_here; k_dflt (refine' kup_newTuple ?FzL34 ?NzL34 ?_ ?zzL34; (case FzL34 => k_asm); (case NzL34 => k_asm); (case zzL34 => kmk_size)); intro _ _ _ _ l1; (try k_lt l1); (try k_sweep)))
  (k_with "compareOp In str ref" => (k_here; (with_reducible show wpAny _ _ (compareOp CmpOp.In (Value.str _ _) (Value.ref _)) _ _ _); k_dflt (refine in2F (News.isTup (by k_asm) (by k_mem)) (by assumption) (by assumption) ?_)))
  (k_with "compareOp Eq ref ref" => (k_here; (with_reducible show wpAny _ _ (compareOp CmpOp.Eq (Value.ref _) (Value.ref _)) _ _ _); k_dflt (first | refine eq_nilT (by is_list) (by is_list) (by units_room) ?_ | refine eq_nilF (vs := _) (v := _) (by is_list) (by is_list) (by units_room) ?_)))
  (k_with "call builtin:list.pop" => (k_here; (with_reducible show wpAny _ _ (call (Value.builtin _) [Value.ref _]) _ _ _); k_dflt (refine' lpop_K ?FzL37 ?NzL37 ?UzL37 ?zzL37 ?_; (case FzL37 => k_asm); (case NzL37 => k_asm); (case UzL37 => k_upd); (case zzL37 => assumption)); (intro _ _ N'; (try dsimp only [List.nil_append, List.cons_append] at N'))))
  (k_with "exec If" => (k_here; (with_reducible show wpAny _ _ (exec (Stmt.If (PySem.Expr.Compare (PySem.Expr.Name _ _) [CmpOp.Eq] [PySem.Expr.Constant (Const.str _) _ _] _) _ _ _) _) _ _ _); k_dflt (first | (refine' if_eqF ?FzL38 ?vzL38 ?ezL38 ?_ ?azL38 ?bzL38 ?dzL38; (case FzL38 => k_asm); (case azL38 => exact rfl); (case bzL38 => exact rfl); (case dzL38 => decide); (case vzL38 => first | exact rfl | assumption); (case ezL38 => first | with_reducible assumption | decide); k_whole) | (refine' if_eqT ?FzL38 ?vzL38 ?ezL38 ?_ ?azL38 ?bzL38 ?dzL38; (case FzL38 => k_asm); (case azL38 => exact rfl); (case bzL38 => exact rfl); (case dzL38 => decide); (case vzL38 => first | exact rfl | assumption); (case ezL38 => first | with_reducible rfl | with_reducible assumption); k_whole))))
  (k_with "exec If" => (k_here; (with_reducible show wpAny _ _ (exec (Stmt.If (PySem.Expr.Compare (PySem.Expr.Name _ _) [CmpOp.NotEq] [PySem.Expr.Constant (Const.str _) _ _] _) _ _ _) _) _ _ _); k_dflt (first | (refine' if_neT ?FzL39 ?vzL39 ?ezL39 ?_ ?azL39 ?bzL39 ?dzL39; (case FzL39 => k_asm); (case azL39 => exact rfl); (case bzL39 => exact rfl); (case dzL39 => decide); (case vzL39 => first | exact rfl | assumption); (case ezL39 => first | with_reducible assumption | decide); k_whole) | (refine' if_neF ?FzL39 ?vzL39 ?ezL39 ?_ ?azL39 ?bzL39 ?dzL39; (case FzL39 => k_asm); (case azL39 => exact rfl); (case bzL39 => exact rfl); (case dzL39 => decide); (case vzL39 => first | exact rfl | assumption); (case ezL39 => first | with_reducible rfl | with_reducible assumption); k_whole))))
  (k_with "exec If" => (k_here; (with_reducible show wpAny _ _ (exec (Stmt.If (PySem.Expr.Compare (PySem.Expr.Name _ _) [CmpOp.In] [PySem.Expr.Tuple _ _ _] _) _ _ _) _) _ _ _); k_dflt (first | (refine' if_inT ?FzL310 ?NzL310 ?vzL310 ?lzL310 ?zzL310 ?ezL310 ?_ ?azL310 ?bzL310 ?dzL310; (case FzL310 => k_asm); (case NzL310 => k_asm); (case lzL310 => repeat constructor); (case zzL310 => decide); (case azL310 => exact rfl); (case bzL310 => exact rfl); (case dzL310 => decide); (case vzL310 => first | exact rfl | assumption); (case ezL310 => first | decide | with_reducible assumption); k_whole; intro h' tk' F' N'; (try k_sweep)) | (refine' if_inF ?FzL310 ?NzL310 ?vzL310 ?lzL310 ?zzL310 ?ezL310 ?_ ?azL310 ?bzL310 ?dzL310; (case FzL310 => k_asm); (case NzL310 => k_asm); (case lzL310 => repeat constructor); (case zzL310 => decide); (case azL310 => exact rfl); (case bzL310 => exact rfl); (case dzL310 => decide); (case vzL310 => first | exact rfl | assumption); (case ezL310 => first | with_reducible assumption | decide | (simp only [List.mem_cons, List.not_mem_nil, or_false, not_or]; refine ⟨?_, ?_⟩ <;> with_reducible assumption) | (simp only [List.mem_cons, List.not_mem_nil, or_false, not_or]; refine ⟨?_, ?_, ?_⟩ <;> with_reducible assumption)); k_whole; intro _ _ _ _; (try k_sweep)))))
  (k_with "assign Tuple" => (k_here; (with_reducible show wpAny _ _ (assign (PySem.Expr.Tuple [PySem.Expr.Name _ _, PySem.Expr.Name _ _] _ _) _ (Value.ref _)) _ _ _); k_dflt (refine' pair_L ?FzL311 ?NzL311 ?tzL311 ?hzL311 ?_ ?azL311 ?bzL311 ?czL311; (case FzL311 => k_asm); (case NzL311 => k_asm); (case tzL311 => ktr_rel); (case hzL311 => exact rfl); (case azL311 => exact rfl); (case bzL311 => exact rfl); (case czL311 => exact rfl); k_whole); intro _ _ _ _; (try k_sweep)))
  (k_with "eval Dict nil nil" => (k_here; k_dflt (refine' newDict_K ?k1zL312 ?k2zL312 (TopRead.nolimit (by k_asm)) (Held.out ?_); (case k1zL312 => k_asm); (case k2zL312 => k_asm); k_whole)))
  (k_with "setItem ref int" => (k_here; (with_reducible show wpAny _ _ (setItem (Value.ref _) (Value.int _ _) _) _ _ _); k_dflt (refine' rset_K ?FzL313 ?NzL313 ?UzL313 ?dzL313 ?zzL313 ?_; (case FzL313 => k_asm); (case NzL313 => k_asm); (case UzL313 => k_updF); (case dzL313 => assumption); (case zzL313 => ktr_units); k_whole); intro _ _ _ _ _))
  (k_with "compareOp In int ref" => (k_here; k_dflt (first | (refine' rin_none ?ezL314 ?lzL314 ?dzL314 ?vzL314 ?_; (case ezL314 => ktr_unf); (case lzL314 => assumption); (case dzL314 => assumption); (case vzL314 => assumption); k_whole) | (refine' rin_some ?ezL314 ?lzL314 ?dzL314 ?vzL314 ?_; (case ezL314 => ktr_unf); (case lzL314 => assumption); (case dzL314 => assumption); (case vzL314 => assumption); k_whole))))
  (k_with "subscriptTail" => (k_here; (with_reducible show wpAny _ _ (subscriptTail _ _ (Value.ref _) (Value.int _ _)) _ _ _); k_dflt (refine' ritem_K ?ezL315 ?dzL315 ?vzL315 ?_ (by with_unfolding_all rfl) (by intro _; with_unfolding_all rfl); (case ezL315 => ktr_unf); (case dzL315 => assumption); (case vzL315 => assumption); k_whole)))
  (k_with "exec If" => (k_here; (with_reducible show wpAny _ _ (exec (Stmt.If (PySem.Expr.Compare (PySem.Expr.Name _ _) [CmpOp.In] [PySem.Expr.Call _ _ _ _] _) _ _ _) _) _ _ _); refine Held.out ?_))
  (k_with "eval Subscript" => (k_here; (with_reducible show wpAny _ _ (eval (PySem.Expr.Subscript (PySem.Expr.Call _ _ _ _) (PySem.Expr.Name _ _) _) _) _ _ _); refine Held.out ?_))
  (k_with "subscriptTail" => (k_here; (with_reducible show wpAny _ _ (subscriptTail _ _ (Value.ref _) (Value.int (-1) _)) _ _ _); k_dflt (refine' last_item ?lzL318 ?_ (by with_unfolding_all rfl) (by intro _; with_unfolding_all rfl); (case lzL318 => is_list); k_whole)))
  (k_with "call builtin:len" => (k_here; k_dflt (first | (refine' tlen1 ?tzL319 ?_; (case tzL319 => ktr_rel); k_whole) | (refine' tlen2 ?tzL319 ?_; (case tzL319 => ktr_rel); k_whole))))
  (k_with "call ref" => (k_here; (with_reducible show wpAny _ _ (call (Value.ref 215) [Value.ref _]) _ _ _); k_dflt (refine' lines_none ?BzL320 ?FzL320 ?XzL320 ?TzL320 ?fzL320 ?kzL320 ?rzL320 ?uzL320 ?NzL320 ?lzL320 ?ozL320 ?nzL320 ?ezL320 ?_; (case BzL320 => k_asm); (case FzL320 => k_asm); (case XzL320 => k_asm); (case TzL320 => k_asm); (case fzL320 => exact rfl); (case kzL320 => exact rfl); (case rzL320 => k_room); (case uzL320 => units_room); (case NzL320 => k_asm); (case lzL320 => exact Heap.IsList.at (by assumption) (Fr.keep (by assumption) _)); (case ozL320 => exact ops_up (Fr.keep (by assumption)) (by assumption)); (case nzL320 => assumption); (case ezL320 => assumption); k_whole); intro _ _ _ _ _; (try dsimp only)))
  (k_with "call ref" => (k_here; (with_reducible show wpAny _ _ (call (Value.ref 215) [Value.ref _]) _ _ _); k_dflt (refine' lines_some ?BzL321 ?FzL321 ?XzL321 ?TzL321 ?fzL321 ?kzL321 ?rzL321 ?uzL321 ?NzL321 ?lzL321 ?ozL321 ?nzL321 ?ezL321 (Held.out ?_); (case BzL321 => k_asm); (case FzL321 => k_asm); (case XzL321 => k_asm); (case TzL321 => k_asm); (case fzL321 => exact rfl); (case kzL321 => exact rfl); (case rzL321 => k_room); (case uzL321 => units_room); (case NzL321 => k_asm); (case lzL321 => exact Heap.IsList.at (by assumption) (Fr.keep (by assumption) _)); (case ozL321 => exact ops_up (Fr.keep (by assumption)) (by assumption)); (case nzL321 => assumption); (case ezL321 => assumption); k_whole)))
  (k_with "exec For Tuple Name cons nil" => (k_here; (with_unfolding_all refine' For_H ?_ (by intro _; rfl) (by passes_own); k_whole)))
  (k_with "exec Assign" => (k_here; (with_reducible show wpAny _ _ (exec (Stmt.Assign [PySem.Expr.Name _ _] (PySem.Expr.ListComp _ _ _ _) _) _) _ _ _); k_dflt (refine' comp_TA ?swzL323 ?clzL323 ?cezL323 ?kizL323 ?nazL323 ?_ (by intro _; rfl); (case swzL323 => exact rfl); (case clzL323 => exact rfl); (case cezL323 => decide); (case kizL323 => exact rfl); (case nazL323 => decide); k_whole)))
  (k_with "exec For Name Call cons nil" => (k_here; (with_unfolding_all refine' For_H ?_ (by intro _; rfl) (by passes_own); k_whole)))
  (k_with "m k_lt" => (intro hlt9; replace hlt9 := allLt_of hlt9; dsimp only [AllLt] at hlt9; revert hlt9))
  (k_with "m k_ne" => ((refine neN ?_; (try dsimp only); first | (with_reducible assumption) | (with_reducible exact Ne.symm (by assumption)) | omega)))
  (k_with "m k_inst" => (exact inst_base (by with_reducible assumption) (by with_reducible assumption) (by with_reducible assumption)))
  (k_with "m k_room" => (((try simp only [depth_under_make, depth_under_kw, depth_in1, depth_deeper, depth_caller]); (try dsimp only [arT]); omega)))
  (k_with "m ktr_rel" => (first | exact Fr.tup (by assumption) (by assumption) | exact tup2 (by assumption) (by assumption) (by assumption) | exact tup3 (by assumption) (by assumption) (by assumption) (by assumption) | exact News.isTup (by k_asm) (by k_mem)))
  (k_with "m ktr_rel" => (exact tup_rest (by k_asm) (by k_asm) (by assumption) (by assumption) (by assumption) (by intro p hp; k_ownIn)))
  (k_with "m k_handed" => (assumption))
  (k_with "m units_room" => (((try simp only [units_in1, units_deeper, Around.mark_units, units_caller]); (try dsimp only [arT]); (have hcL9 := cLine_is); (try simp only [cLine] at *); omega)))
  (k_with "m ktr_unf" => (first | exact News.get (by k_asm) (by k_mem) | exact get1 (by assumption) (by assumption) | exact get2 (by assumption) (by assumption) (by assumption) | exact get3 (by assumption) (by assumption) (by assumption) (by assumption)))
  (k_with "m ktr_units" => ((rw [sizeLine_eq]; first | omega | (refine Nat.le_trans (len_without (by assumption)) ?_; decide))))
  (k_with "m ktr_rel" => (exact tup_restA (by k_asm) (by k_asm) (by assumption) (by assumption) (by assumption) (by assumption) (by intro p hp; k_ownIn)))
  trivial

theorem lines_none {w : World} {loose : List Str} {mean : ExcName → Option Value} {mg mb : Str → Option Value} {A₀ : Around} {dp un : Nat} {gd : Option (List Code)} {env : Env} {outer : List Env} {base h₀ : Heap} {L : Addr} {m : Str → Option Value} {s : Shared} {Q E : Value → Shared → Prop} {ol : Addr} {ovs : List Value} {ops : List Op} {news : List (Addr × Obj)}
    (B : Below A₀ base outer h₀) (F : Fr h₀ L s.heap m) (X : (hd.heap_1 w.params).In h₀) (T : Top topProg loose mean mg mb h₀)
    (hf : env.frame = some L) (hk : env.scope.kind = .function) (hroom : dp + 6 < recursionLimit) (hun : un + 200 < cLine) (N : News h₀ L s.heap news) (hol : s.heap.IsList ol ovs.toArray) (hops : All2 (OpIn s.heap) ovs ops) (hlen : ops.length ≤ 200) (hl : lawLines ops = none)
    (hq : ∀ h' tk', Fr h₀ L h' m → News h₀ L h' news → Up s.heap h' → Q .none { s with heap := h', toks := tk' }) :
    wpAny (model PySem.Challenge.rw_on0310_01.row.prog w) (arT dp un gd env outer) (call (.ref 215) [.ref ol]) Q E s := by
  refine lines_h B F X T hf hk hroom hun hol hops hlen fun v h' tk' up r => ?_
  unfold LinesRes at r; rw [hl] at r; subst r
  exact hq h' tk' (F.keeps up) (N.keeps up) up
theorem lines_some {w : World} {loose : List Str} {mean : ExcName → Option Value} {mg mb : Str → Option Value} {A₀ : Around} {dp un : Nat} {gd : Option (List Code)} {env : Env} {outer : List Env} {base h₀ : Heap} {L : Addr} {m : Str → Option Value} {s : Shared} {Q E : Value → Shared → Prop} {ol : Addr} {ovs : List Value} {ops l : List Op} {news : List (Addr × Obj)}
    (B : Below A₀ base outer h₀) (F : Fr h₀ L s.heap m) (X : (hd.heap_1 w.params).In h₀) (T : Top topProg loose mean mg mb h₀)
    (hf : env.frame = some L) (hk : env.scope.kind = .function) (hroom : dp + 6 < recursionLimit) (hun : un + 200 < cLine) (N : News h₀ L s.heap news) (hol : s.heap.IsList ol ovs.toArray) (hops : All2 (OpIn s.heap) ovs ops) (hlen : ops.length ≤ 200) (hl : lawLines ops = some l)
    (hq : ∀ r lvs n h' tk' own, Fr h₀ L h' m → News h₀ L h' ((r, listOf (List.toArray lvs) n) :: (news ++ own)) → (∀ p ∈ news, p.1 ≠ r) → Up s.heap h' → s.heap.get? r = none → All2 (OpIn h') lvs l → own = restOf h₀ h' L (r :: news.map (·.1)) → OwnOff own (r :: news.map (·.1)) → Q (.ref r) { s with heap := h', toks := tk' }) :
    wpAny (model PySem.Challenge.rw_on0310_01.row.prog w) (arT dp un gd env outer) (call (.ref 215) [.ref ol]) Q E s := by
  refine lines_h B F X T hf hk hroom hun hol hops hlen fun v h' tk' up r => ?_
  unfold LinesRes at r; rw [hl] at r
  refine letter fun Qg hg => ?_
  obtain ⟨r, lvs, n, rfl, nr, er, A1⟩ := r
  refine hg ?_
  clear hg
  refine hq r lvs n h' tk' _ (F.keeps up) (fun p hp => ?_) (fun p hp e => by rw [← e, (N p hp).1] at nr; cases nr) up nr A1 rfl rest_off
  rcases List.mem_cons.mp hp with rfl | hp
  · exact ⟨er, (fun e => by obtain ⟨oL, hL⟩ := fr_there F; rw [show r = L from e, hL] at nr; cases nr), up_none F.keep nr⟩
  · rcases List.mem_append.mp hp with hp | hp
    · exact N.keeps up p hp
    · refine letter fun Qg hg => ?_
      obtain ⟨h1, h2, _, h4⟩ := mem_restOf.mp hp
      refine hg ?_
      clear hg
      exact ⟨h1, h2, h4⟩

noncomputable abbrev mState (ol fd ll rd : Addr) (cv : Value) (u1 u2 u3 : Option Value) : Str → Option Value := fun z => if z = Str.ofString "args" then u2 else if z = Str.ofString "name" then u1 else if z = Str.ofString "mine" then u3 else if z = Str.ofString "frame" then some cv else if z = Str.ofString "rules" then some (.ref rd) else if z = Str.ofString "lines" then some (.ref ll) else if z = Str.ofString "first" then some (.ref fd) else if z = Str.ofString "ops" then some (.ref ol) else none
theorem mState_init {ol fd ll rd : Addr} {cv : Value} {y : Str} : (if y = Str.ofString "frame" then some cv else if y = Str.ofString "rules" then some (.ref rd) else if y = Str.ofString "lines" then some (.ref ll) else if y = Str.ofString "first" then some (.ref fd) else if y = Str.ofString "ops" then some (Value.ref ol) else none) = mState ol fd ll rd cv none none none y := by
    by_cases k0 : y = Str.ofString "args"
    · subst k0; rfl
    by_cases k1 : y = Str.ofString "name"
    · subst k1; rfl
    by_cases k2 : y = Str.ofString "mine"
    · subst k2; rfl
    by_cases k3 : y = Str.ofString "frame"
    · subst k3; rfl
    by_cases k4 : y = Str.ofString "rules"
    · subst k4; rfl
    by_cases k5 : y = Str.ofString "lines"
    · subst k5; rfl
    by_cases k6 : y = Str.ofString "first"
    · subst k6; rfl
    by_cases k7 : y = Str.ofString "ops"
    · subst k7; rfl
    simp only [mState, if_neg k0, if_neg k1, if_neg k2, if_neg k3, if_neg k4, if_neg k5, if_neg k6, if_neg k7]

theorem mState_over {ol fd ll rd : Addr} {cv : Value} {u1 u2 u3 v1 v2 : Option Value} {y : Str} : (if y = Str.ofString "args" then v2 else if y = Str.ofString "name" then v1 else mState ol fd ll rd cv u1 u2 u3 y) = mState ol fd ll rd cv v1 v2 u3 y := by
    by_cases k0 : y = Str.ofString "args"
    · subst k0; rfl
    by_cases k1 : y = Str.ofString "name"
    · subst k1; rfl
    by_cases k2 : y = Str.ofString "mine"
    · subst k2; rfl
    by_cases k3 : y = Str.ofString "frame"
    · subst k3; rfl
    by_cases k4 : y = Str.ofString "rules"
    · subst k4; rfl
    by_cases k5 : y = Str.ofString "lines"
    · subst k5; rfl
    by_cases k6 : y = Str.ofString "first"
    · subst k6; rfl
    by_cases k7 : y = Str.ofString "ops"
    · subst k7; rfl
    simp only [mState, if_neg k0, if_neg k1, if_neg k2, if_neg k3, if_neg k4, if_neg k5, if_neg k6, if_neg k7]

theorem mState_frame {ol fd ll rd : Addr} {cv cv' : Value} {u1 u2 u3 v1 v2 : Option Value} {y : Str} : (if y = Str.ofString "frame" then some cv' else if y = Str.ofString "args" then v2 else if y = Str.ofString "name" then v1 else mState ol fd ll rd cv u1 u2 u3 y) = mState ol fd ll rd cv' v1 v2 u3 y := by
    by_cases k0 : y = Str.ofString "args"
    · subst k0; rfl
    by_cases k1 : y = Str.ofString "name"
    · subst k1; rfl
    by_cases k2 : y = Str.ofString "mine"
    · subst k2; rfl
    by_cases k3 : y = Str.ofString "frame"
    · subst k3; rfl
    by_cases k4 : y = Str.ofString "rules"
    · subst k4; rfl
    by_cases k5 : y = Str.ofString "lines"
    · subst k5; rfl
    by_cases k6 : y = Str.ofString "first"
    · subst k6; rfl
    by_cases k7 : y = Str.ofString "ops"
    · subst k7; rfl
    simp only [mState, if_neg k0, if_neg k1, if_neg k2, if_neg k3, if_neg k4, if_neg k5, if_neg k6, if_neg k7]

inductive JFrame (g hn : Heap) (L ol fd ll rd : Addr) (wr : List Addr) (lines : List Op) (i : Nat) (h : Heap) : Prop
  | mk (u1 u2 cv c : _) : Fr g L h (mState ol fd ll rd cv u1 u2 none) → CfaIn (hideAll h (L :: wr)) cv c → (frameRun none (lines.take i) = some c) → Kept [L] hn h → JFrame g hn L ol fd ll rd wr lines i h
theorem mState_mine {ol fd ll rd : Addr} {cv : Value} {u1 u2 u3 v3 : Option Value} {y : Str} : (if y = Str.ofString "mine" then v3 else mState ol fd ll rd cv u1 u2 u3 y) = mState ol fd ll rd cv u1 u2 v3 y := by
    by_cases k0 : y = Str.ofString "args"
    · subst k0; rfl
    by_cases k1 : y = Str.ofString "name"
    · subst k1; rfl
    by_cases k2 : y = Str.ofString "mine"
    · subst k2; rfl
    by_cases k3 : y = Str.ofString "frame"
    · subst k3; rfl
    by_cases k4 : y = Str.ofString "rules"
    · subst k4; rfl
    by_cases k5 : y = Str.ofString "lines"
    · subst k5; rfl
    by_cases k6 : y = Str.ofString "first"
    · subst k6; rfl
    by_cases k7 : y = Str.ofString "ops"
    · subst k7; rfl
    simp only [mState, if_neg k0, if_neg k1, if_neg k2, if_neg k3, if_neg k4, if_neg k5, if_neg k6, if_neg k7]

theorem mState_all {ol fd ll rd : Addr} {cv : Value} {u1 u2 u3 v1 v2 v3 : Option Value} {y : Str} : (if y = Str.ofString "args" then v2 else if y = Str.ofString "name" then v1 else if y = Str.ofString "mine" then v3 else mState ol fd ll rd cv u1 u2 u3 y) = mState ol fd ll rd cv v1 v2 v3 y := by
    by_cases k0 : y = Str.ofString "args"
    · subst k0; rfl
    by_cases k1 : y = Str.ofString "name"
    · subst k1; rfl
    by_cases k2 : y = Str.ofString "mine"
    · subst k2; rfl
    by_cases k3 : y = Str.ofString "frame"
    · subst k3; rfl
    by_cases k4 : y = Str.ofString "rules"
    · subst k4; rfl
    by_cases k5 : y = Str.ofString "lines"
    · subst k5; rfl
    by_cases k6 : y = Str.ofString "first"
    · subst k6; rfl
    by_cases k7 : y = Str.ofString "ops"
    · subst k7; rfl
    simp only [mState, if_neg k0, if_neg k1, if_neg k2, if_neg k3, if_neg k4, if_neg k5, if_neg k6, if_neg k7]

theorem marks_nil {first : Rules} {lines : List Op} {i : Nat} {mk : Int} (hmk : 0 + (i : Int) = mk) (hr : lawRule first lines mk = none) (k : Int) : (if 0 ≤ k ∧ k < ((i + 1 : Nat) : Int) then lawRule first lines k else none) = if 0 ≤ k ∧ k < (i : Int) then lawRule first lines k else none := by
  by_cases h : k = mk
  · subst h; rw [hr, if_neg (by omega : ¬ (0 ≤ k ∧ k < (i : Int)))]; split <;> rfl
  · by_cases h2 : 0 ≤ k ∧ k < (i : Int)
    · rw [if_pos h2, if_pos (by omega)]
    · rw [if_neg h2, if_neg (by omega)]
theorem marks_put {first : Rules} {lines : List Op} {i : Nat} {mk : Int} {r : Rule} (hmk : 0 + (i : Int) = mk) (hr : lawRule first lines mk = some r) (k : Int) : (if 0 ≤ k ∧ k < ((i + 1 : Nat) : Int) then lawRule first lines k else none) = put (fun k => if 0 ≤ k ∧ k < (i : Int) then lawRule first lines k else none) mk r k := by
  unfold put
  dsimp only
  by_cases h : k = mk
  · subst h; rw [if_pos rfl, hr, if_pos (by omega)]
  · rw [if_neg h]
    by_cases h2 : 0 ≤ k ∧ k < (i : Int)
    · rw [if_pos h2, if_pos (by omega)]
    · rw [if_neg h2, if_neg (by omega)]
theorem rule_args {op : Op} {x : Str} (hr : ruleOf op = some x) : (∃ m, op.args = [m] ∧ ruleArg op = 0) ∨ ∃ m c, op.args = [m, c] ∧ ruleArg op = c := by
  cases op <;> first | (simp [ruleOf] at hr; done) | exact .inl ⟨_, rfl, rfl⟩ | exact .inr ⟨_, _, rfl, rfl⟩
theorem rule_nil {first : Rules} {lines : List Op} {mk : Int} (h : lines.filter (onMark mk) = []) : lawRule first lines mk = none := by unfold lawRule; rw [h]; rfl
theorem rule_last {first : Rules} {lines fl : List Op} {mk : Int} {op : Op} (h : lines.filter (onMark mk) = fl ++ [op]) : lawRule first lines mk = match ruleOf op with | some x => some (x, ruleArg op) | none => first mk := by unfold lawRule; rw [h, List.getLast?_concat] <;> rfl
/-- how the loop over the marks stands -/
inductive JMarks (w : World) (g hn : Heap) (L ol fd ll rd ce : Addr) (cv : Value) (wr : List Addr) (first : Rules) (lines : List Op) (i : Nat) (h : Heap) : Prop
  | mk (u1 u2 u3 co mv o kvs : _) : Fr g L h (mState ol fd ll rd cv u1 u2 u3) → (h.get? ce = some co) → (co.data = .cell mv) → (h.get? rd = some o) → o.IsDictOf (iK w) kvs → Bears (hideAll h (L :: ce :: rd :: wr)) kvs (fun k => if 0 ≤ k ∧ k < (i : Int) then lawRule first lines k else none) → Kept [L, ce, rd] hn h → JMarks w g hn L ol fd ll rd ce cv wr first lines i h
/-- what _law_state gives back -/
noncomputable def StateRes (w : World) (h h' : Heap) (v : Value) (r : Option (Cfa × Rules)) : Prop := match r with
  | none => v = .none
  | some p => ∃ T cv D n, v = .ref T ∧ h.get? T = none ∧ h.get? D = none ∧ h'.get? T = some (tupOb [cv, .ref D] n) ∧ CfaIn h' cv p.1 ∧ RulesAt w h' D p.2
set_option maxHeartbeats 16000000 in
theorem state_h {w : World} {loose : List Str} {mean : ExcName → Option Value} {mg mb : Str → Option Value} {A₀ : Around} {dp un : Nat} {gd : Option (List Code)} {env : Env} {outer : List Env} {base h₀ : Heap} {L : Addr} {m : Str → Option Value} {s : Shared} {Q E : Value → Shared → Prop} {ol fd : Addr} {ovs : List Value} {ops : List Op} {first : Rules}
    (B : Below A₀ base outer h₀) (F : Fr h₀ L s.heap m) (X : (hd.heap_1 w.params).In h₀) (T : Top topProg loose mean mg mb h₀)
    (hf : env.frame = some L) (hk : env.scope.kind = .function) (hroom : dp + 12 < recursionLimit) (hun : un + 300 < cLine) (hol : s.heap.IsList ol ovs.toArray) (hops : All2 (OpIn s.heap) ovs ops) (hlen : ops.length ≤ 200) (hfd : RulesAt w s.heap fd first)
    (hq : ∀ v h' tk', Up s.heap h' → StateRes w s.heap h' v (lawState ops first) → Q v { s with heap := h', toks := tk' }) :
    wpAny (model PySem.Challenge.rw_on0310_01.row.prog w) (arT dp un gd env outer) (call (.ref 220) [.ref ol, .ref fd]) Q E s := by
  revert X; k_fill; intro X
  have N : News h₀ L s.heap [] := fun p hp => by cases hp
  refine wpAny_call ?_
  k_dflt (refine' enterC (binds := [(Str.ofString "ops", .ref ol), (Str.ofString "first", .ref fd)]) B F X T N rfl hf hk ?k6 ?k7 ?k8 ?k9 ?kB ?kD ?_ ?c2 ?c3 ?c4; (case k6 => k_is); (case k7 => k_is); (case k8 => show dp < _; omega); (case k9 => exact BindsTo.of_eq rfl); (case kB => exact rfl); (case kD => decide +kernel); (case c2 => exact rfl); (case c3 => exact rfl); (case c4 => exact rfl); k_whole; intro g L' h' tk0 cells' hg hk₁ hL' F' N' Y' B' X' T' l1; (try k_lt l1); k_cells Y'; (try simp only [List.cons_append, List.nil_append] at N'); (try dsimp only); (try k_fold))

  have up : Up s.heap g := fun b o e => hg b o List.not_mem_nil e
  clear hg hk₁
  have g1 : g.IsList ol ovs.toArray := hol.at fun o e => up _ _ e
  have g2 := ops_up up hops
  refine letter fun Qg hg => ?_
  obtain ⟨fo, fkvs, hfo, hflo, hfdd, hfb⟩ := id hfd
  refine hg ?_
  clear hg
  have hfg := up _ _ hfo
  rcases hl : lawLines ops with _ | lines
  · ((try k_extra "m letter"); w_strict k_steps)
    (try dsimp only)
    (try k_unfold)
    (with_reducible rename Fr _ _ _ _ => kF)
    refine hq _ _ _ (fun b o e => kF.keep _ _ (up _ _ e)) ?_
    unfold StateRes lawState; rw [hl]
  · ((try k_extra "m letter"); w_strict k_steps)
    unfold Held; intro ll lvs ln hA tkA ownA FA NA SA UA fA A9 hown hoff
    simp only [List.cons_append, List.nil_append, List.map_cons, List.map_nil] at NA hown hoff
    have kG := And.intro FA NA
    dsimp only
    ((try k_extra "m letter"); w_strict k_steps)
    unfold Held; intro rd hR oR FR NR lR loR hsR fsR hiR fiR
    (try (replace lR := allLt_of lR; dsimp only [AllLt] at lR))
    ((try k_extra "m letter"); w_strict k_steps)
    (with_reducible rename Fr _ _ _ _ => kF)
    (with_reducible rename News _ _ _ _ => kN)
    have k9 := rest_kept kG.1 kF kN (fun p hp => by rw [← hown] at hp; k_ownIn)
    have A10 := A9.imp fun v op r => op_keep k9 (fun a ha vs n e => by
      rcases List.mem_cons.mp ha with q | q
      · exact ns_notTup kG.1 vs n (q ▸ e)
      · rcases List.mem_cons.mp q with q | q
        · exact list_notTup (kG.2 _ (.head _)).1 vs n (q ▸ e)
        · exact cell_notTup (kG.2 _ (.tail _ (.head _))).1 (by assumption) vs n (List.mem_singleton.mp q ▸ e)) r
    have hlen2 := lines_len hl
    refine list_H rfl (News.isList kN (.tail _ (.tail _ (.head _)))) ?_
    rintro fp wr h₁ jj1
    refine letter fun Qg hg => ?_
    obtain ⟨isrc, iwr, iup, ithere, ind⟩ := jj1
    refine hg ?_
    clear hg
    have F₁ : Fr g L' h₁ (mState ol fd _ _ .none none none none) := fr_map (Fr.keeps kF iup) (fun y => mState_init)
    have gnone : ∀ b ∈ wr, b ≠ L' ∧ g.get? b = none := fun b hb => ⟨(fun e => by obtain ⟨oL, hL⟩ := fr_there kF; rw [← e, (iwr b hb).2] at hL; cases hL), up_none kF.keep (iwr b hb).2⟩
    refine ⟨JFrame g _ L' ol fd _ _ wr lines, ⟨none, none, .none, none, F₁, .nil, rfl, fun b o _ e => iup b o e⟩, ?_, ?_, ?_⟩
    · rintro i h h' jj2 k ex
      refine letter fun Qg hg => ?_
      obtain ⟨u1, u2, cv, c, F, C1, hr, K0⟩ := jj2
      refine hg ?_
      clear hg
      exact ⟨u1, u2, cv, c, Fr.after F k gnone, C1.keeps (hide_step k (fun a ha => List.mem_cons_of_mem _ ha) (fun a ha => .inl ha)), hr, fun b o hb e => k _ _ (fun q => by rw [(iwr b q).2] at e; cases e) (K0 b o hb e)⟩
    · rintro i v h tk hi hvi jj3 hex
      refine letter fun Qg hg => ?_
      obtain ⟨u1, u2, cv, c, F, C1, hr, K0⟩ := jj3
      refine hg ?_
      clear hg
      obtain ⟨op, hop, hv'⟩ := A10.get hvi
      refine letter fun Qg hg => ?_
      obtain ⟨aT, b, t, n9, k9, vs9, rfl, hT, hb, hi2⟩ := hv'
      refine hg ?_
      clear hg
      have hT' : IsTup h aT [.str op.name t, .ref b].toArray := isTup_of (K0 _ _ (fun q => ns_notTup kF _ _ (List.mem_singleton.mp q ▸ hT)) hT)
      have hb' : IsTup h b vs9.toArray := isTup_of (K0 _ _ (fun q => ns_notTup kF _ _ (List.mem_singleton.mp q ▸ hb)) hb)
      obtain ⟨own, hown2⟩ : ∃ own, restOf g h L' [] = own := ⟨_, rfl⟩
      have N : News g L' h own := fun p hp => by
        subst hown2
        refine letter fun Qg hg => ?_
        obtain ⟨h1, h2, _, h4⟩ := mem_restOf.mp hp
        refine hg ?_
        clear hg
        exact ⟨h1, h2, h4⟩
      have F₀ := And.intro F trivial
      (try dsimp only [mState] at F)
      have fpk : ∀ h9 : Heap, Kept [L'] h h9 → ∀ b ∈ fp, ∀ o, h.get? b = some o → h9.get? b = some o := fun h9 k b hb o e => k b o (fun q => by
        rw [List.mem_singleton.mp q] at hb
        rcases isrc _ hb with r | r
        · exact (kN _ (.tail _ (.tail _ (.head _)))).2.1 (List.mem_singleton.mp r).symm
        · exact (gnone _ r).1 rfl) e
      have wrh : ∀ D, h.get? D = none → D ∉ wr := fun D e q => by obtain ⟨o, e2⟩ := hex D (iwr D q).1; rw [e] at e2; cases e2
      have hb2 := K0 _ _ (fun q => ns_notTup kF _ _ (List.mem_singleton.mp q ▸ hb)) hb
      have hbZ : b ∉ L' :: wr := by
        rw [List.mem_cons, not_or]
        exact ⟨fun q => ns_notTup kF _ _ (q ▸ hb), fun q => by rw [(iwr b q).2] at hb; cases hb⟩
      by_cases h1 : ∃ m c, op = .cfa m c
      · obtain ⟨m1, c1, rfl⟩ := h1
        obtain ⟨t1, t2, rfl⟩ := ints2 hi2
        simp only [Op.name] at hT'
        ((try k_extra "m letter"); w_strict k_steps)
        (with_reducible rename Fr _ _ _ _ => kF9)
        (with_reducible rename News _ _ _ _ => kN9)
        have kk : Kept [L'] h _ := rest_kept F₀.1 kF9 kN9 (fun p hp => by rw [hown2] at hp; k_ownIn)
        refine ⟨_, _, rfl, ⟨_, _, _, _, fr_map kF9 (fun y => mState_frame), CfaIn.pair (hideAll_get _ (kk _ _ (fun q => hbZ (List.mem_singleton.mp q ▸ List.mem_cons_self)) hb2) hbZ), (frameRun_take hop hr).trans rfl, K0.trans kk⟩, fpk _ kk⟩
      · by_cases h2 : ∃ m, op = .cfaReg m
        · obtain ⟨m1, rfl⟩ := h2
          obtain ⟨t1, rfl⟩ := ints1 hi2
          simp only [Op.name] at hT'
          rcases cfa_cases C1 (fun _ _ e => of_hideAll _ e) with ⟨hc, rfl⟩ | ⟨p, ca, v1, v2, cn, hc, rfl, hcT⟩
          · subst hc
            ((try k_extra "m letter"); w_strict k_steps)
            (try dsimp only [StepH])
            (repeat k_extra "Behind")
            (try k_unfold)
            (with_reducible rename Fr _ _ _ _ => kF9)
            refine hq _ _ _ (fun b o e => kF9.keep _ _ (up _ _ e)) ?_
            unfold StateRes lawState; rw [hl]; dsimp only; rw [frameRun_none hop hr (by simp only [frameStep])]
          · subst hc
            ((try k_extra "m letter"); w_strict k_steps)
            (with_reducible rename Fr _ _ _ _ => kF9)
            (with_reducible rename News _ _ _ _ => kN9)
            have kk : Kept [L'] h _ := rest_kept F₀.1 kF9 kN9 (fun p hp => by rw [hown2] at hp; k_ownIn)
            refine ⟨_, _, rfl, ⟨_, _, _, _, fr_map kF9 (fun y => mState_frame), CfaIn.pair (n := 0) (hideAll_get _ (kN9 _ (.head _)).1 (by rw [List.mem_cons, not_or]; exact ⟨(kN9 _ (.head _)).2.1, wrh _ (fresh_rest (as := []) (kN9 _ (.head _)).2.2 (kN9 _ (.head _)).2.1 List.not_mem_nil (by rw [hown2]; first | assumption | exact allLt_of (by assumption) | exact And.right (by assumption) | exact And.right (And.right (by assumption))))⟩)), (frameRun_take hop hr).trans rfl, K0.trans kk⟩, fpk _ kk⟩
        · by_cases h3 : ∃ m, op = .cfaOff m
          · obtain ⟨m1, rfl⟩ := h3
            obtain ⟨t1, rfl⟩ := ints1 hi2
            simp only [Op.name] at hT'
            rcases cfa_cases C1 (fun _ _ e => of_hideAll _ e) with ⟨hc, rfl⟩ | ⟨p, ca, v1, v2, cn, hc, rfl, hcT⟩
            · subst hc
              ((try k_extra "m letter"); w_strict k_steps)
              (try dsimp only [StepH])
              (repeat k_extra "Behind")
              (try k_unfold)
              (with_reducible rename Fr _ _ _ _ => kF9)
              refine hq _ _ _ (fun b o e => kF9.keep _ _ (up _ _ e)) ?_
              unfold StateRes lawState; rw [hl]; dsimp only; rw [frameRun_none hop hr (by simp only [frameStep])]
            · subst hc
              ((try k_extra "m letter"); w_strict k_steps)
              (with_reducible rename Fr _ _ _ _ => kF9)
              (with_reducible rename News _ _ _ _ => kN9)
              have kk : Kept [L'] h _ := rest_kept F₀.1 kF9 kN9 (fun p hp => by rw [hown2] at hp; k_ownIn)
              refine ⟨_, _, rfl, ⟨_, _, _, _, fr_map kF9 (fun y => mState_frame), CfaIn.pair (n := 0) (hideAll_get _ (kN9 _ (.head _)).1 (by rw [List.mem_cons, not_or]; exact ⟨(kN9 _ (.head _)).2.1, wrh _ (fresh_rest (as := []) (kN9 _ (.head _)).2.2 (kN9 _ (.head _)).2.1 List.not_mem_nil (by rw [hown2]; first | assumption | exact allLt_of (by assumption) | exact And.right (by assumption) | exact And.right (And.right (by assumption))))⟩)), (frameRun_take hop hr).trans rfl, K0.trans kk⟩, fpk _ kk⟩
          · have ne1 : op.name ≠ Str.ofString "def_cfa" := fun e => h1 (name_cfa.mp e)
            have ne2 : op.name ≠ Str.ofString "def_cfa_register" := fun e => h2 (name_cfaReg.mp e)
            have ne3 : op.name ≠ Str.ofString "def_cfa_offset" := fun e => h3 (name_cfaOff.mp e)
            have hrn : frameRun none (lines.take (i + 1)) = some c := (frameRun_take hop hr).trans (frameStep_other h1 h2 h3)
            generalize op.name = nm at *
            ((try k_extra "m letter"); w_strict k_steps)
            (with_reducible rename Fr _ _ _ _ => kF9)
            (with_reducible rename News _ _ _ _ => kN9)
            have kk : Kept [L'] h _ := rest_kept F₀.1 kF9 kN9 (fun p hp => by rw [hown2] at hp; k_ownIn)
            refine ⟨_, _, rfl, ⟨_, _, _, _, fr_map kF9 (fun y => mState_over), C1.keeps (hide_step kk (fun a ha => by rw [List.mem_singleton.mp ha]; exact List.mem_cons_self) (fun a ha => .inl ha)), hrn, K0.trans kk⟩, fpk _ kk⟩
    · rintro h h' tk jj4 k
      refine letter fun Qg hg => ?_
      obtain ⟨u1, u2, cv, c, F, C1, hr, K0⟩ := jj4
      refine hg ?_
      clear hg
      have ntL := ns_notTup kF
      have hd1 := kN _ (.tail _ (.head _))
      have hce := kN _ (.tail _ (.tail _ (.tail _ (.head _))))
      have hl1 := kN _ (.tail _ (.tail _ (.head _)))
      rw [A10.length, List.take_length] at hr
      have F := Fr.after F k gnone
      have C2 := C1.keeps (hide_step k (fun a ha => List.mem_cons_of_mem _ ha) (fun a ha => .inl ha))
      have K2 : Kept [L'] _ h' := fun b o hb e => k _ _ (fun q => by rw [(iwr b q).2] at e; cases e) (K0 b o hb e)
      clear C1 K0 k F₁ A9 k9 kG
      refine letter fun Qg hg => ?_
      obtain ⟨own, hown2, hoff2, N⟩ := led2 (K2 _ _ (fun q => hce.2.1 (List.mem_singleton.mp q)) hce.1) hce.2.1 hce.2.2 (K2 _ _ (fun q => hd1.2.1 (List.mem_singleton.mp q)) hd1.1) hd1.2.1 hd1.2.2
      refine hg ?_
      clear hg
      have F₀ := And.intro F trivial
      (try dsimp only [mState] at F)
      (try k_fold)
      clear kN kF
      ((try k_extra "m letter"); w_strict k_steps)
      (rename (IsRange _ _ _ _ _ _ _ _) => hRg)
      (rename (Fr _ _ _ _) => kF)
      (rename (News _ _ _ _) => kN)
      (rename (∀ b o, Heap.get? _ b = some o → Heap.get? _ b = some o) => upP)
      refine range_H (n := 4) rfl hRg (by rfl) (by rfl) (fun I i v s Q E st q => by show wpAny _ _ (pure ()) _ _ _; exact wpAny_pure q) ?_
      rintro fp wr h₁ jj5
      refine letter fun Qg hg => ?_
      obtain ⟨isrc, iwr, iup, ithere, ind⟩ := jj5
      refine hg ?_
      clear hg
      have F₁ := Fr.keeps kF iup
      have gn2 : ∀ b ∈ wr, b ≠ L' ∧ g.get? b = none := fun b hb => ⟨(fun e => by obtain ⟨oL, hL⟩ := fr_there kF; rw [← e, (iwr b hb).2] at hL; cases hL), up_none kF.keep (iwr b hb).2⟩
      have eC := kN _ (.head _)
      have eD := kN _ (.tail _ (.head _))
      dsimp only at eC eD
      have el0 := upP _ _ (K2 _ _ (fun q => hl1.2.1 (List.mem_singleton.mp q)) hl1.1)
      have A12 := A10.imp fun v op r => op_keep (fun b o hb e => upP _ _ (K2 b o hb e)) (fun a ha vs n e => ntL vs n (List.mem_singleton.mp ha ▸ e)) r
      have hnt : ∀ a ∈ [L', L' + 1, rd], ∀ vs n, Heap.get? _ a ≠ some (tupOb vs n) := fun a ha => by
        rcases List.mem_cons.mp ha with ha | ha
        · rw [ha]; exact ns_notTup kF
        · rcases List.mem_cons.mp ha with ha | ha
          · rw [ha]; exact cell_notTup eC.1 (by assumption)
          · rw [List.mem_singleton.mp ha]; exact dict_notTup eD.1 hiR
      have hneL : ll ∉ [L', L' + 1, rd] := fun q => by
        rcases List.mem_cons.mp q with q | q
        · exact hl1.2.1 q
        · rcases List.mem_cons.mp q with q | q
          · exact SA _ (.head _) q.symm
          · have := List.mem_singleton.mp q; exact absurd lR.1 (by rw [this]; exact Nat.lt_irrefl _)
      have offw : ∀ b, (∃ o, Heap.get? _ b = some o) → b ∉ wr := fun b hb q => by obtain ⟨o, e⟩ := hb; rw [(iwr b q).2] at e; cases e
      refine ⟨JMarks w g _ L' ol fd _ _ (L' + 1) cv wr first lines, ⟨u1, u2, none, _, _, _, [], F₁, iup _ _ eC.1, by assumption, iup _ _ eD.1, by assumption, ⟨(fun _ _ e => nomatch e), (fun k _ => by rw [if_neg (by omega)]), (fun _ e => nomatch e)⟩, fun b o _ e => iup b o e⟩, ?_, ?_, ?_⟩
      · rintro i h h' jj6 k ex
        refine letter fun Qg hg => ?_
        obtain ⟨u1, u2, u3, co, mv, o, kvs, F, e1, e2, e3, e4, B2, K3⟩ := jj6
        refine hg ?_
        clear hg
        exact ⟨u1, u2, u3, co, mv, o, kvs, Fr.after F k gn2, k _ _ (offw _ ⟨_, eC.1⟩) e1, e2, k _ _ (offw _ ⟨_, eD.1⟩) e3, e4, B2.keeps (hide_step k (fun a ha => by simp [ha]) (fun a ha => .inl ha)), fun b o hb e => k _ _ (offw b ⟨o, e⟩) (K3 b o hb e)⟩
      · rintro i v h tk hi ⟨t, rfl⟩ jj7 hex
        refine letter fun Qg hg => ?_
        obtain ⟨u1, u2, u3, co, mv, o, kvs, F, e1, e2, e3, e4, B2, K3⟩ := jj7
        refine hg ?_
        clear hg
        generalize hmk : 0 + (i : Int) = mk
        clear F₀
        refine letter fun Qg hg => ?_
        obtain ⟨own3, hown3, hoff3, N⟩ := led2 e1 eC.2.1 eC.2.2 e3 eD.2.1 eD.2.2
        refine hg ?_
        clear hg
        have F₀ := And.intro F trivial
        (try dsimp only [mState] at F)
        iterate 3 (first | walk1 | (dsimp only; walk1))
        refine wpAny_execs_cons ?_
        refine' comp_TA ?sw ?cl ?ce ?ki ?na ?_ (by intro _; rfl)
        case sw => exact rfl
        case cl => exact rfl
        case ce => decide
        case ki => exact rfl
        case na => decide
        walk1
        (with_reducible rename Fr _ _ _ _ => FN)
        (with_reducible rename News _ _ _ _ => NN)
        (rename (_ = Data.cell (some _)) => dN)
        have kN3 : Kept [L', L' + 1, rd] h _ := rest_kept F₀.1 FN NN (fun p hp => .tail _ (.tail _ (hown3 ▸ hp)))
        have K4 := K3.trans kN3
        have elN := K4 _ _ hneL el0
        have AN := A12.imp fun v op r => op_keep K4 hnt r
        have ntN := ns_notTup FN
        refine list_TA (vs := lvs) rfl ⟨_, elN, rfl, ln, rfl⟩ (by rw [sizeLine_eq, A12.length]; omega) ?_
        rintro fp2 wr2 h₂ jj8 C D h₃ nC nD neCD up3 exC eD3
        refine letter fun Qg hg => ?_
        obtain ⟨isrc2, iwr2, iup2, ithere2, ind2⟩ := jj8
        refine hg ?_
        clear hg
        dsimp only at iwr2 iup2
        have oldN : ∀ b, (∃ o, Heap.get? _ b = some o) → b ∉ C :: D :: wr2 := fun b hb q => by
          obtain ⟨o, e⟩ := hb
          rcases List.mem_cons.mp q with q | q
          · rw [← q, iup2 _ _ e] at nC; cases nC
          · rcases List.mem_cons.mp q with q | q
            · rw [← q, iup2 _ _ e] at nD; cases nD
            · rw [(iwr2 b q).2] at e; cases e
        have gn3 : ∀ b ∈ C :: D :: wr2, b ≠ L' ∧ g.get? b = none := fun b hb => by
          refine ⟨fun q => oldN b (q ▸ fr_there FN) hb, ?_⟩
          cases q : g.get? b with
          | none => rfl
          | some o => exact absurd hb (oldN b ⟨o, FN.keep _ _ q⟩)
        refine ⟨fun i2 ys h4 => Fr g L' h4 (mState ol fd ll rd cv u1 u2 u3) ∧ Kept [L'] _ h4 ∧ All2 (OpIn (hideAll h4 (L' :: C :: D :: wr2))) ys ((lines.take i2).filter (onMark mk)), ⟨FN.keeps (fun b o e => up3 _ _ (iup2 _ _ e)), fun b o _ e => up3 _ _ (iup2 _ _ e), .nil⟩, ?_, ?_, ?_⟩
        · rintro i2 ys h4 h5 ⟨J1, J2, J3⟩ k ex
          exact ⟨Fr.after J1 k gn3, fun b o hb e => k b o (oldN b ⟨o, e⟩) (J2 b o hb e), ops_up (hide_step k (fun a ha => .tail _ ha) (fun a ha => .inl ha)) J3⟩
        · rintro i2 ys v h4 tk4 m4 E4 hi2 hv ⟨J1, J2, J3⟩ hns hD4 hex4
          refine letter fun Qg hg => ?_
          obtain ⟨op, hop, aT, b, t2, n2, k2, vs2, rfl, hT, hb, hi3⟩ := AN.get hv
          refine hg ?_
          clear hg
          have hT4 := isTup_of (J2 _ _ (fun q => ntN _ _ (List.mem_singleton.mp q ▸ hT)) hT)
          have hb4 := isTup_of (J2 _ _ (fun q => ntN _ _ (List.mem_singleton.mp q ▸ hb)) hb)
          refine pair_C hns hT4 rfl (by decide) fun h5 tk5 oC m5 eC5 hC5 m5n m5a k5 => ?_
          have F5 := Fr.after J1 k5 (fun a ha => gn3 a (by rw [List.mem_singleton.mp ha]; exact .head _))
          have neCb : b ≠ C := fun q => oldN b ⟨_, hb⟩ (q ▸ .head _)
          have bK : Heap.get? h5 b = some (tupOb vs2 k2) := k5 _ _ (fun q => neCb (List.mem_singleton.mp q)) (J2 _ _ (fun q => ntN _ _ (List.mem_singleton.mp q ▸ hb)) hb)
          have b5 := isTup_of bK
          have cl5 := k5 _ _ (fun q => oldN (L' + 1) ⟨_, (NN _ (.head _)).1⟩ (List.mem_singleton.mp q ▸ .head _)) (J2 _ _ (fun q => (NN _ (.head _)).2.1 (List.mem_singleton.mp q)) (NN _ (.head _)).1)
          have bZ : b ∉ L' :: C :: D :: wr2 := fun q => by
            rcases List.mem_cons.mp q with q | q
            · exact ntN _ _ (q ▸ hb)
            · exact oldN b ⟨_, hb⟩ q
          have ZZ : ∀ a ∈ [C], a ∈ L' :: C :: D :: wr2 := fun a ha => by rw [List.mem_singleton.mp ha]; exact .tail _ (.head _)
          have base9 : ∀ h9 : Heap, Up h5 h9 → Fr g L' h9 (mState ol fd ll rd cv u1 u2 u3) ∧ Kept [L'] _ h9 ∧ Up (hideAll h4 (L' :: C :: D :: wr2)) (hideAll h9 (L' :: C :: D :: wr2)) ∧ h9.get? D = some (lstOb ys) ∧ (∃ m', h9.Ns C m') ∧ ∀ b ∈ fp2, ∀ o, h4.get? b = some o → h9.get? b = some o := fun h9 up => by
            have k9 : Kept [C] h4 h9 := fun b o hb e => up _ _ (k5 b o hb e)
            refine ⟨F5.keeps up, fun b o hb e => k9 _ _ (fun q => oldN b ⟨_, e⟩ (List.mem_singleton.mp q ▸ .head _)) (J2 b o hb e), hide_step k9 ZZ (fun a ha => .inl ha), k9 _ _ (fun q => neCD (List.mem_singleton.mp q).symm) hD4, ⟨_, hC5.ns (up _ _ eC5)⟩, fun b hb o e => k9 _ _ (fun q => ?_) e⟩
            obtain ⟨o2, e2⟩ := ithere2 b hb
            rw [List.mem_singleton.mp q, nC] at e2; cases e2
          have noAdd : onMark mk op = false → ((lines.take (i2 + 1)).filter (onMark mk)) = (lines.take i2).filter (onMark mk) := fun e => by rw [List.take_add_one, hop, List.filter_append]; simp [e]
          have yesAdd : onMark mk op = true → ((lines.take (i2 + 1)).filter (onMark mk)) = (lines.take i2).filter (onMark mk) ++ [op] := fun e => by rw [List.take_add_one, hop, List.filter_append]; simp [e]
          have leafNo : ∀ h9 : Heap, Up h5 h9 → onMark mk op = false → (Fr g L' h9 (mState ol fd ll rd cv u1 u2 u3) ∧ Kept [L'] _ h9 ∧ All2 (OpIn (hideAll h9 (L' :: C :: D :: wr2))) ys ((lines.take (i2 + 1)).filter (onMark mk))) ∧ h9.get? D = some (lstOb ys) ∧ (∃ m', h9.Ns C m') ∧ ∀ b ∈ fp2, ∀ o, h4.get? b = some o → h9.get? b = some o := fun h9 up e =>
            let q := base9 h9 up
            ⟨⟨q.1, q.2.1, by rw [noAdd e]; exact ops_up q.2.2.1 J3⟩, q.2.2.2⟩
          have leafYes : ∀ (h9 : Heap) (T n : Nat) (t9 : Tok), Up h5 h9 → h5.get? T = none → h9.get? T = some (tupOb [.str op.name t9, .ref b] n) → onMark mk op = true → (Fr g L' h9 (mState ol fd ll rd cv u1 u2 u3) ∧ Kept [L'] _ h9 ∧ All2 (OpIn (hideAll h9 (L' :: C :: D :: wr2))) (ys ++ [.ref T]) ((lines.take (i2 + 1)).filter (onMark mk))) ∧ h9.get? D = some (lstOb ys) ∧ (∃ m', h9.Ns C m') ∧ ∀ b ∈ fp2, ∀ o, h4.get? b = some o → h9.get? b = some o := fun h9 T n t9 up nT eT e => by
            have q := base9 h9 up
            refine ⟨⟨q.1, q.2.1, ?_⟩, q.2.2.2⟩
            rw [yesAdd e]
            refine (ops_up q.2.2.1 J3).append (.cons ⟨T, b, t9, n, k2, vs2, rfl, hideAll_get _ eT ?_, hideAll_get _ (up _ _ bK) bZ, hi3⟩ .nil)
            intro hT9
            have th : ∃ o, h5.get? T = some o := by
              rcases List.mem_cons.mp hT9 with r | r
              · exact r ▸ fr_there F5
              · by_cases hc : T = C
                · exact hc ▸ ⟨_, eC5⟩
                · obtain ⟨o, e9⟩ : ∃ o, h4.get? T = some o := by
                    rcases List.mem_cons.mp r with r | r
                    · exact absurd r hc
                    · rcases List.mem_cons.mp r with r | r
                      · exact r ▸ ⟨_, hD4⟩
                      · exact hex4 _ (.tail _ (.tail _ (iwr2 _ r).1))
                  exact ⟨_, k5 _ _ (fun q => hc (List.mem_singleton.mp q)) e9⟩
            obtain ⟨o, e9⟩ := th
            rw [nT] at e9; cases e9
          refine isTrue_and (t_neUnit (name_C eC5 hC5 m5a) b5 hi3 ?_ fun h6 up6 => ?_)
          · units_room
          by_cases z : op.args = []
          · dsimp only
            rw [if_neg (by simp [z]), if_neg (by decide)]
            exact ⟨_, _, rfl, leafNo _ up6 (by simp [onMark, z])⟩
          · dsimp only
            rw [if_pos (by simp [z])]
            obtain ⟨a0, r0, hz⟩ := List.exists_cons_of_ne_nil z
            rw [hz] at hi3
            obtain ⟨ta, vr, rfl, hi4⟩ : ∃ ta vr, vs2 = .int a0 ta :: vr ∧ IntsAre vr r0 := by
              cases hi3 with
              | cons _ t r => exact ⟨_, _, rfl, r⟩
            refine isTrue_and (t_itemEq (name_C (up6 _ _ eC5) hC5 m5a) (isTup_of (up6 _ _ bK)) (name_CC rfl (up6 _ _ cl5) dN) ?_)
            dsimp only
            by_cases z2 : a0 = mk
            · rw [if_pos (by simpa using z2)]
              have F6 := F5.keeps up6
              refine isTrue_and (isTrue_or (t_inCall (name_C (up6 _ _ eC5) hC5 m5n) (name_G F6 X' T' (by k_is)) (X'.keeps F6.keep) (by k_is) (rules_G (op := op) B' F6 X' T' rfl rfl (by k_room)).1 fun h7 tk7 up7 => ?_))
              have up57 := Up.trans up6 up7
              rcases hr : ruleOf op with _ | rx
              · dsimp only [Option.isSome_none]
                rw [if_neg (by decide)]
                refine isTrue_or (t_eqLit (name_C (up57 _ _ eC5) hC5 m5n) ?_)
                dsimp only
                by_cases z3 : op.name = Str.ofString "restore"
                · rw [if_pos (by simpa using z3)]
                  refine isTrue_and_nil ?_
                  rw [if_pos rfl]
                  refine tuple2 (name_C (up57 _ _ eC5) hC5 m5n) (name_C (up57 _ _ eC5) hC5 m5a) fun T h8 up8 nT eT => ?_
                  exact ⟨_, _, rfl, leafYes _ _ _ _ (up57.trans up8) (up_none up57 nT) eT (by obtain ⟨m9, rfl⟩ := name_restore.mp z3; simp [onMark, hz, z2, isRestore])⟩
                · rw [if_neg (by simpa using z3)]
                  refine isTrue_or_nil ?_
                  rw [if_neg (by decide), if_neg (by decide)]
                  exact ⟨_, _, rfl, leafNo _ up57 (by have hir := isRestore_other z3; simp [onMark, hr, hir])⟩
              · dsimp only [Option.isSome_some]
                rw [if_pos rfl]
                rw [if_pos rfl]
                refine isTrue_and_nil ?_
                rw [if_pos rfl]
                refine tuple2 (name_C (up57 _ _ eC5) hC5 m5n) (name_C (up57 _ _ eC5) hC5 m5a) fun T h8 up8 nT eT => ?_
                exact ⟨_, _, rfl, leafYes _ _ _ _ (up57.trans up8) (up_none up57 nT) eT (by simp [onMark, hz, z2, hr])⟩
            · rw [if_neg (by simpa using z2), if_neg (by decide)]
              exact ⟨_, _, rfl, leafNo _ up6 (by simp [onMark, hz, z2])⟩
        · rintro ys h4 h5 tk5 ⟨J1, J2, J3⟩ hD4 k5 hyl exm
          have F5 := Fr.after J1 k5 (fun a ha => gn3 a (.tail _ (.tail _ ha)))
          refine' store_nm F5 ?a ?b ?c ?_
          case a => rfl
          case b => rfl
          case c => rfl
          intro h6a F6a k6a
          obtain ⟨mC, nC6, fin6⟩ := store_fin F6a exm k6a (gn3 C (.head _)).1 (gn3 C (.head _)).2
          refine ⟨mC, nC6, fun h6 hs6 => ?_⟩
          obtain ⟨F6, k6⟩ := fin6 h6 hs6
          clear hs6 nC6 fin6 F6a k6a
          dsimp only
          rw [AN.length, List.take_length] at J3
          have kZ : Kept (L' :: C :: wr2) h4 h6 := Kept.trans (k5.mono fun a ha => .tail _ (.tail _ ha)) (k6.mono fun a ha => by
            rcases List.mem_cons.mp ha with ha | ha
            · rw [ha]; exact .head _
            · rw [List.mem_singleton.mp ha]; exact .tail _ (.head _))
          have J6 := ops_up (hide_step kZ (fun a ha => by
            rcases List.mem_cons.mp ha with ha | ha
            · rw [ha]; exact .head _
            · rcases List.mem_cons.mp ha with ha | ha
              · rw [ha]; exact .tail _ (.head _)
              · exact .tail _ (.tail _ (.tail _ ha))) (fun a ha => .inl ha)) J3
          have oldL : ∀ b, b ≠ L' → ∀ o, Heap.get? _ b = some o → Heap.get? h6 b = some o := fun b hb o e => kZ _ _ (fun q => by
            rcases List.mem_cons.mp q with q | q
            · exact hb q
            · rcases List.mem_cons.mp q with q | q
              · exact oldN b ⟨_, e⟩ (q ▸ .head _)
              · exact oldN b ⟨_, e⟩ (.tail _ (.tail _ q))) (J2 _ _ (fun q => hb (List.mem_singleton.mp q)) e)
          have eD6 := kZ _ _ (fun q => by
            rcases List.mem_cons.mp q with q | q
            · exact (gn3 D (.tail _ (.head _))).1 q
            · rcases List.mem_cons.mp q with q | q
              · exact neCD q.symm
              · obtain ⟨o, e⟩ := ithere2 D (iwr2 D q).1
                rw [nD] at e; cases e) hD4
          have eC6 := oldL _ (NN _ (.head _)).2.1 _ (NN _ (.head _)).1
          have eR6 := oldL _ (NN _ (.tail _ (.head _))).2.1 _ (NN _ (.tail _ (.head _))).1
          dsimp only at eC6 eR6
          have gC6 := (NN _ (.head _)).2
          have gR6 := (NN _ (.tail _ (.head _))).2
          dsimp only at gC6 gR6
          refine letter fun Qg hg => ?_
          obtain ⟨own6, hown6, hoff6, N6⟩ := led3 eD6 (gn3 D (.tail _ (.head _))).1 (gn3 D (.tail _ (.head _))).2 eC6 gC6.1 gC6.2 eR6 gR6.1 gR6.2
          refine hg ?_
          clear hg
          have F₆ := And.intro F6 trivial
          (try dsimp only [mState] at F6)
          have kEnd : ∀ h9 : Heap, Kept [L', D, L' + 1, rd] h6 h9 → Kept [L', L' + 1, rd] h h9 := fun h9 k9 b o hb e => by
            have eN := kN3 _ _ hb e
            have hb1 : b ≠ L' := fun q => hb (q ▸ .head _)
            refine k9 _ _ (fun q => ?_) (oldL b hb1 _ eN)
            rcases List.mem_cons.mp q with q | q
            · exact hb1 q
            · rcases List.mem_cons.mp q with q | q
              · exact oldN b ⟨_, eN⟩ (q ▸ .tail _ (.head _))
              · exact hb (.tail _ q)
          have fpE : ∀ h9 : Heap, Kept [L', D, L' + 1, rd] h6 h9 → ∀ b ∈ fp, ∀ o, h.get? b = some o → h9.get? b = some o := fun h9 k9 b hb o e => kEnd h9 k9 b o (fun q => by
            rcases isrc b hb with r | r
            · cases r
            · rcases List.mem_cons.mp q with q | q
              · exact (gn2 b r).1 q
              · rcases List.mem_cons.mp q with q | q
                · exact offw _ ⟨_, eC.1⟩ (q ▸ r)
                · exact offw _ ⟨_, eD.1⟩ (List.mem_singleton.mp q ▸ r)) e
          have bearE : ∀ h9 : Heap, Kept [L', D, L' + 1, rd] h6 h9 → Up (hideAll h (L' :: (L' + 1) :: rd :: wr)) (hideAll h9 (L' :: (L' + 1) :: rd :: wr)) := fun h9 k9 =>
            hide_step (kEnd h9 k9) (fun a ha => by
              rcases List.mem_cons.mp ha with ha | ha
              · rw [ha]; exact .head _
              · rcases List.mem_cons.mp ha with ha | ha
                · rw [ha]; exact .tail _ (.head _)
                · rw [List.mem_singleton.mp ha]; exact .tail _ (.tail _ (.head _))) (fun a ha => .inl ha)
          have nD1 : @Ne Nat D (L' + 1) := fun q => oldN (L' + 1) ⟨_, (NN _ (.head _)).1⟩ (q ▸ .tail _ (.head _))
          have nD2 : @Ne Nat D rd := fun q => oldN rd ⟨_, (NN _ (.tail _ (.head _))).1⟩ (q ▸ .tail _ (.head _))
          have nCR : @Ne Nat (L' + 1) rd := Nat.ne_of_lt lR.2.1
          have newZ : ∀ T : Addr, T ≠ L' → @Ne Nat T (L' + 1) → @Ne Nat T rd → h6.get? T = none → T ∉ L' :: (L' + 1) :: rd :: wr := fun T n1 n2 n3 e q => by
            rcases List.mem_cons.mp q with q | q
            · exact n1 q
            · rcases List.mem_cons.mp q with q | q
              · exact n2 q
              · rcases List.mem_cons.mp q with q | q
                · exact n3 q
                · obtain ⟨o, e2⟩ := hex T (iwr T q).1
                  have e3 := kN3 _ _ (fun r => by
                    rcases List.mem_cons.mp r with r | r
                    · exact n1 r
                    · rcases List.mem_cons.mp r with r | r
                      · exact n2 r
                      · exact n3 (List.mem_singleton.mp r)) e2
                  rw [oldL T n1 _ e3] at e; cases e
          have lens := J6.length
          have hmk4 : 0 ≤ mk ∧ mk < 4 := by omega
          have gZ : ∀ a ∈ L' :: (L' + 1) :: rd :: wr, g.get? a = none := fun a ha => by
            rcases List.mem_cons.mp ha with ha | ha
            · rw [ha]; exact Heap.get?_none_of_le F₆.1.above
            · rcases List.mem_cons.mp ha with ha | ha
              · rw [ha]; exact eC.2.2
              · rcases List.mem_cons.mp ha with ha | ha
                · rw [ha]; exact eD.2.2
                · exact (gn2 a ha).2
          have gUp : ∀ h9 : Heap, ∀ {m9 : Str → Option Value}, Fr g L' h9 m9 → Up g (hideAll h9 (L' :: (L' + 1) :: rd :: wr)) := fun h9 m9 F9 => hide_in F9.keep gZ
          rcases List.eq_nil_or_concat (lines.filter (onMark mk)) with hfl | ⟨fl, op, hfl⟩
          · rw [hfl] at J6 lens
            have ey := List.eq_nil_of_length_eq_zero lens
            subst ey
            ((try k_extra "m letter"); w_strict k_steps)
            (try dsimp only)
            (with_reducible rename Fr _ _ _ _ => kF9)
            (with_reducible rename News _ _ _ _ => kN9)
            have k69 : Kept [L', D, L' + 1, rd] h6 _ := rest_kept F₆.1 kF9 kN9 (fun p hp => by rw [← hown6] at hp; k_ownIn)
            exact ⟨_, _, rfl, ⟨u1, u2, some (.ref D), _, _, o, kvs, fr_map kF9 (fun y => mState_mine), (kN9 (L' + 1, _) (by k_mem)).1, dN, (kN9 (rd, _) (by k_mem)).1, e4, (B2.keeps (bearE _ k69)).congr (marks_nil hmk (rule_nil hfl)), K3.trans (kEnd _ k69)⟩, fpE _ k69⟩
          · rw [List.concat_eq_append] at hfl
            rw [hfl] at J6 lens
            refine letter fun Qg hg => ?_
            obtain ⟨ys1, y, rfl, J7, hy⟩ := J6.snoc
            refine hg ?_
            clear hg
            refine letter fun Qg hg => ?_
            obtain ⟨aT, b, t2, n2, k2, vs2, rfl, hT, hb, hi3⟩ := hy
            refine hg ?_
            clear hg
            have hntE : ∀ a ∈ [D, L' + 1, rd], ∀ vs n, Heap.get? h6 a ≠ some (tupOb vs n) := fun a ha => by
              rcases List.mem_cons.mp ha with ha | ha
              · rw [ha]; exact list_notTup eD6
              · rcases List.mem_cons.mp ha with ha | ha
                · rw [ha]; exact cell_notTup eC6 dN
                · rw [List.mem_singleton.mp ha]; exact dict_notTup eR6 e4
            have hT6 := isTup_of (of_hideAll _ hT)
            have hb6 := isTup_of (of_hideAll _ hb)
            have hTn : aT ∉ [D, L' + 1, rd] := fun q => hntE _ q _ _ (of_hideAll _ hT)
            have hbn : b ∉ [D, L' + 1, rd] := fun q => hntE _ q _ _ (of_hideAll _ hb)
            have hlen4 : kvs.length ≤ 4 := few_keys (isDict_nodup e4) B2.keys
            ((try k_extra "m letter"); w_strict k_steps)
            unfold Held
            (with_reducible rename Fr _ _ _ _ => F8)
            (with_reducible rename News _ _ _ _ => N8)
            refine wpAny_If (t_inCall (name_L F8 rfl) (name_LG F8 X' T' (by k_is)) (X'.keeps F8.keep) (by k_is) (rules_G (op := op) B' F8 X' T' rfl rfl (by k_room)).1 fun h9 tk9 up9 => ?_)
            have F9 := F8.keeps up9
            have N9 := N8.keeps up9
            clear F8 N8
            dsimp only
            rcases hr : ruleOf op with _ | rx
            · dsimp only [Option.isSome_none]
              rw [if_neg (by decide)]
              rcases hv2 : valueAt fkvs mk with _ | v2
              · ((try k_extra "m letter"); w_strict k_steps)
                (try dsimp only [StepH])
                (repeat k_extra "Behind")
                (with_reducible rename Fr _ _ _ _ => kF9)
                (with_reducible rename News _ _ _ _ => kN9)
                have k69 : Kept [L', D, L' + 1, rd] h6 _ := rest_kept F₆.1 kF9 kN9 (fun p hp => by rw [← hown6] at hp; k_ownIn)
                have hrn : lawRule first lines mk = none := by rw [rule_last hfl, hr]; exact hfb.dom _ hv2
                exact ⟨_, _, rfl, ⟨_, _, _, _, _, o, kvs, fr_map kF9 (fun y => mState_all), (kN9 (L' + 1, _) (by k_mem)).1, dN, (kN9 (rd, _) (by k_mem)).1, e4, (B2.keeps (bearE _ k69)).congr (marks_nil hmk hrn), K3.trans (kEnd _ k69)⟩, fpE _ k69⟩
              · obtain ⟨rv, hrv, hrI⟩ := hfb.val _ _ hv2
                have hfI := hrI.keeps up
                have hrn : lawRule first lines mk = some rv := by rw [rule_last hfl, hr]; exact hrv
                ((try k_extra "m letter"); w_strict k_steps)
                (try dsimp only [StepH])
                (repeat k_extra "Behind")
                (with_reducible rename Fr _ _ _ _ => kF9)
                (with_reducible rename News _ _ _ _ => kN9)
                have k69 : Kept [L', D, L' + 1, rd] h6 _ := rest_kept F₆.1 kF9 kN9 (fun p hp => by rw [← hown6] at hp; k_ownIn)
                exact ⟨_, _, rfl, ⟨_, _, _, _, _, _, _, fr_map kF9 (fun y => mState_all), (kN9 (L' + 1, _) (by k_mem)).1, dN, (kN9 (rd, _) (by k_mem)).1, by assumption, ((B2.keeps (bearE _ k69)).put (hfI.keeps (gUp _ kF9)) hmk4).congr (marks_put hmk hrn), K3.trans (kEnd _ k69)⟩, fpE _ k69⟩
            · dsimp only [Option.isSome_some]
              rw [if_pos rfl]
              have hrn : lawRule first lines mk = some (rx, ruleArg op) := by rw [rule_last hfl, hr]
              rcases rule_args hr with ⟨a0, ha, hra⟩ | ⟨a0, c0, ha, hra⟩
              · rw [ha] at hi3
                obtain ⟨t0, rfl⟩ := ints1 hi3
                ((try k_extra "m letter"); w_strict k_steps)
                unfold Held
                (with_reducible rename Fr _ _ _ _ => F8)
                (with_reducible rename News _ _ _ _ => N8)
                refine t_itemCall (fun h' u => name_L (F8.keeps u) rfl) (name_LG F8 X' T' (by k_is)) (X'.keeps F8.keep) (by k_is) ((rules_G (op := op) B' F8 X' T' rfl rfl (by k_room)).2 rx hr) fun hC tkC uC upC => ?_
                have F9 := F8.keeps upC
                have N9 := N8.keeps upC
                clear F8 N8
                dsimp only
                ((try k_extra "m letter"); w_strict k_steps)
                (try dsimp only [StepH])
                (repeat k_extra "Behind")
                (with_reducible rename Fr _ _ _ _ => kF9)
                (with_reducible rename News _ _ _ _ => kN9)
                have k69 : Kept [L', D, L' + 1, rd] h6 _ := rest_kept F₆.1 kF9 kN9 (fun p hp => by rw [← hown6] at hp; k_ownIn)
                (rename (_ ∧ _ ∧ _ ∧ _ ∧ AllLt _ _) => hl9)
                have gT := kN9 _ (.head _)
                dsimp only at gT
                have hTn6 := fresh_rest (as := [D, L' + 1, rd]) gT.2.2 gT.2.1 (by simp only [List.mem_cons, List.not_mem_nil, or_false, not_or]; refine ⟨neN ?_, neN ?_, neN ?_⟩ <;> omega) (hown6 ▸ hl9.2.2.2.2)
                exact ⟨_, _, rfl, ⟨_, _, _, _, _, _, _, fr_map kF9 (fun y => mState_all), (kN9 (L' + 1, _) (by k_mem)).1, dN, (kN9 (rd, _) (by k_mem)).1, by assumption, ((B2.keeps (bearE _ k69)).put (RuleIn.mk (n := 0) (hideAll_get _ gT.1 (newZ _ gT.2.1 (neN (by omega)) (neN (by omega)) hTn6))) hmk4).congr (marks_put hmk (hrn.trans (by rw [hra]))), K3.trans (kEnd _ k69)⟩, fpE _ k69⟩
              · rw [ha] at hi3
                obtain ⟨t0, t1, rfl⟩ := ints2 hi3
                ((try k_extra "m letter"); w_strict k_steps)
                unfold Held
                (with_reducible rename Fr _ _ _ _ => F8)
                (with_reducible rename News _ _ _ _ => N8)
                refine t_itemCall (fun h' u => name_L (F8.keeps u) rfl) (name_LG F8 X' T' (by k_is)) (X'.keeps F8.keep) (by k_is) ((rules_G (op := op) B' F8 X' T' rfl rfl (by k_room)).2 rx hr) fun hC tkC uC upC => ?_
                have F9 := F8.keeps upC
                have N9 := N8.keeps upC
                clear F8 N8
                dsimp only
                ((try k_extra "m letter"); w_strict k_steps)
                (try dsimp only [StepH])
                (repeat k_extra "Behind")
                (with_reducible rename Fr _ _ _ _ => kF9)
                (with_reducible rename News _ _ _ _ => kN9)
                have k69 : Kept [L', D, L' + 1, rd] h6 _ := rest_kept F₆.1 kF9 kN9 (fun p hp => by rw [← hown6] at hp; k_ownIn)
                (rename (_ ∧ _ ∧ _ ∧ _ ∧ AllLt _ _) => hl9)
                have gT := kN9 _ (.head _)
                dsimp only at gT
                have hTn6 := fresh_rest (as := [D, L' + 1, rd]) gT.2.2 gT.2.1 (by simp only [List.mem_cons, List.not_mem_nil, or_false, not_or]; refine ⟨neN ?_, neN ?_, neN ?_⟩ <;> omega) (hown6 ▸ hl9.2.2.2.2)
                exact ⟨_, _, rfl, ⟨_, _, _, _, _, _, _, fr_map kF9 (fun y => mState_all), (kN9 (L' + 1, _) (by k_mem)).1, dN, (kN9 (rd, _) (by k_mem)).1, by assumption, ((B2.keeps (bearE _ k69)).put (RuleIn.mk (n := 0) (hideAll_get _ gT.1 (newZ _ gT.2.1 (neN (by omega)) (neN (by omega)) hTn6))) hmk4).congr (marks_put hmk (hrn.trans (by rw [hra]))), K3.trans (kEnd _ k69)⟩, fpE _ k69⟩
      · rintro h h' tk jj9 k
        refine letter fun Qg hg => ?_
        obtain ⟨u1, u2, u3, co, mv, o, kvs, F, e1, e2, e3, e4, B2, K3⟩ := jj9
        refine hg ?_
        clear hg
        clear F₀
        have F := Fr.after F k gn2
        have kB : Kept [L', L' + 1, rd] _ h' := fun b o hb e => k _ _ (offw b ⟨o, e⟩) (K3 b o hb e)
        have e1' := k _ _ (offw _ ⟨_, eC.1⟩) e1
        have e3' := k _ _ (offw _ ⟨_, eD.1⟩) e3
        refine letter fun Qg hg => ?_
        obtain ⟨own3, hown3, hoff3, N⟩ := led2 e1' eC.2.1 eC.2.2 e3' eD.2.1 eD.2.2
        refine hg ?_
        clear hg
        have F₀ := And.intro F trivial
        (try dsimp only [mState] at F)
        ((try k_extra "m letter"); w_strict k_steps)
        (try dsimp only)
        (with_reducible rename Fr _ _ _ _ => kF9)
        (with_reducible rename News _ _ _ _ => kN9)
        have k9 := rest_kept F₀.1 kF9 kN9 (fun p hp => by rw [← hown3] at hp; k_ownIn)
        have gT := kN9 _ (.head _)
        dsimp only at gT
        refine hq _ _ _ (fun b o e => kF9.keep _ _ (up _ _ e)) ?_
        unfold StateRes lawState
        rw [hl]
        dsimp only
        rw [hr]
        refine ⟨_, cv, rd, _, rfl, up_none up gT.2.2, up_none up eD.2.2, gT.1, cfa_keep (kB.trans k9) hnt ((C2.keeps hide_out).keeps upP), o, kvs, (kN9 (rd, _) (by k_mem)).1, loR, e4, (B2.keeps (fun b o e => ?_)).congr (fun q => rfl)⟩
        have hbZ : b ∉ L' :: (L' + 1) :: rd :: wr := fun q => by rw [hideAll_none _ q] at e; cases e
        have e' := of_hideAll _ e
        exact k9 _ _ (fun q => hbZ (by
          rcases List.mem_cons.mp q with q | q
          · rw [q]; exact .head _
          · rcases List.mem_cons.mp q with q | q
            · rw [q]; exact .tail _ (.head _)
            · rw [List.mem_singleton.mp q]; exact .tail _ (.tail _ (.head _)))) (k _ _ (fun q => hbZ (.tail _ (.tail _ (.tail _ q)))) e')
/-- the law's own rows -/
structure LS where
  addr : Int
  st : Cfa × Rules
  rows : List Row
noncomputable def LS.move (s : LS) (goal : Int) : Option LS := if goal < s.addr then none else some { s with rows := if s.addr < goal then s.rows ++ [⟨s.addr, s.st.1, s.st.2⟩] else s.rows, addr := goal }
noncomputable def LS.turn (s : LS) : Op → Option LS
  | .adv a => s.move (s.addr + a)
  | .loc a => s.move a
  | _ => some s
noncomputable def lawGo (heads : List Op) (first : Rules) (s : LS) (done : List Op) : List Op → Option LS
  | [] => some s
  | op :: r => match s.turn op with
    | none => none
    | some s' => match lawState (heads ++ (done ++ [op])) first with
      | none => none
      | some st => lawGo heads first { s' with st := st } (done ++ [op]) r
noncomputable def lawRows (f : FDE) : Option (List Row) := match lawState f.heads (fun _ => none) with
  | none => none
  | some st => match lawGo f.heads st.2 ⟨f.begin, st, []⟩ [] f.ops with
    | none => none
    | some s => some (s.rows ++ [⟨s.addr, s.st.1, s.st.2⟩])

theorem lawRule_snoc (first : Rules) (l : List Op) (op : Op) (k : Int) : lawRule first (l ++ [op]) k = if onMark k op = true then (match ruleOf op with | some x => some (x, ruleArg op) | none => first k) else lawRule first l k := by
  unfold lawRule
  rw [List.filter_append]
  by_cases h : onMark k op = true
  · rw [List.filter_cons_of_pos h, List.filter_nil, List.getLast?_concat, if_pos h] <;> rfl
  · rw [List.filter_cons_of_neg h, List.filter_nil, List.append_nil, if_neg h]
/-- the reckoning's state and the lines that stand -/
structure Agree (first : Rules) (s : RS) (lines : List Op) (opens : List Nat) : Prop where
  cfa : frameRun none lines = some s.cfa
  rules : s.rules = lawRules first lines
  first' : s.first = first
  len : s.kept.length = opens.length
  kept : ∀ (i : Nat) (p : Cfa × Rules) (n : Nat), s.kept[i]? = some p → opens[i]? = some n → n ≤ lines.length ∧ frameRun none (lines.take n) = some p.1 ∧ p.2 = lawRules first (lines.take n)
  sorted : ∀ (i j a b : Nat), i ≤ j → opens[i]? = some a → opens[j]? = some b → a ≤ b
theorem lawRules_put {first : Rules} {l : List Op} {op : Op} {m : Int} {x : Str} (hm : 0 ≤ m ∧ m < 4) (ha : op.args.head? = some m) (hr : ruleOf op = some x) : lawRules first (l ++ [op]) = put (lawRules first l) m (x, ruleArg op) := by
  funext k
  unfold lawRules put
  rw [lawRule_snoc, hr]
  have e : onMark k op = decide (m = k) := by simp [onMark, ha, hr]
  rw [e]
  by_cases hk : k = m
  · subst hk; simp [hm]
  · have : ¬ m = k := fun q => hk q.symm
    simp [hk, this]
theorem lawRules_restore {first : Rules} {l : List Op} {m : Int} (hm : 0 ≤ m ∧ m < 4) : lawRules first (l ++ [.restore m]) = fun k => if k = m then first m else lawRules first l k := by
  funext k
  unfold lawRules
  rw [lawRule_snoc]
  have e : onMark k (.restore m) = decide (m = k) := by simp [onMark, Op.args, isRestore]
  rw [e]
  by_cases hk : k = m
  · subst hk; simp [hm, ruleOf]
  · have : ¬ m = k := fun q => hk q.symm
    simp [hk, this]
theorem lawRules_other {first : Rules} {l : List Op} {op : Op} (hr : ruleOf op = none) (hs : isRestore op = false) : lawRules first (l ++ [op]) = lawRules first l := by
  funext k
  unfold lawRules
  rw [lawRule_snoc]
  have e : onMark k op = false := by simp [onMark, hr, hs]
  rw [e]; simp
/-- one line more -/
theorem Agree.line {first : Rules} {s s' : RS} {lines : List Op} {opens : List Nat} {op : Op} (A : Agree first s lines opens) (hc : frameStep s.cfa op = some s'.cfa) (hr : s'.rules = lawRules first (lines ++ [op])) (hf : s'.first = s.first) (hk : s'.kept = s.kept) : Agree first s' (lines ++ [op]) opens := by
  refine ⟨?_, hr, hf.trans A.first', by rw [hk]; exact A.len, fun i p n h1 h2 => ?_, A.sorted⟩
  · rw [frameRun_append, A.cfa]
    show (match frameStep s.cfa op with | none => none | some c' => frameRun c' []) = _
    rw [hc]; rfl
  · rw [hk] at h1
    obtain ⟨a1, a2, a3⟩ := A.kept i p n h1 h2
    rw [List.take_append_of_le_length a1]
    exact ⟨by rw [List.length_append]; omega, a2, a3⟩
/-- a state is remembered -/
theorem Agree.remember {first : Rules} {s : RS} {lines : List Op} {opens : List Nat} (A : Agree first s lines opens) : Agree first { s with kept := s.kept ++ [(s.cfa, s.rules)] } lines (opens ++ [lines.length]) := by
  have top : ∀ j a, opens[j]? = some a → a ≤ lines.length := fun j a h => by
    have hj : j < opens.length := by
      rcases Nat.lt_or_ge j opens.length with q | q
      · exact q
      · rw [List.getElem?_eq_none q] at h; cases h
    have hk : j < s.kept.length := by rw [A.len]; exact hj
    exact (A.kept j s.kept[j] a (List.getElem?_eq_getElem hk) h).1
  refine ⟨A.cfa, A.rules, A.first', by simp [A.len], fun i p n h1 h2 => ?_, fun i j a b hij h1 h2 => ?_⟩
  · by_cases hi : i < s.kept.length
    · rw [List.getElem?_append_left hi] at h1
      rw [List.getElem?_append_left (by rw [← A.len]; exact hi)] at h2
      exact A.kept i p n h1 h2
    · have hi' : i = s.kept.length := by
        have := (List.getElem?_eq_some_iff.mp h1).1
        simp at this; omega
      subst hi'
      simp only [List.getElem?_concat_length, Option.some.injEq] at h1
      rw [A.len] at h2
      simp only [List.getElem?_concat_length, Option.some.injEq] at h2
      subst h1 h2
      exact ⟨Nat.le_refl _, by rw [List.take_length]; exact A.cfa, by rw [List.take_length]; exact A.rules⟩
  · by_cases hj : j < opens.length
    · rw [List.getElem?_append_left hj] at h2
      rw [List.getElem?_append_left (by omega)] at h1
      exact A.sorted i j a b hij h1 h2
    · have hj' : j = opens.length := by
        have := (List.getElem?_eq_some_iff.mp h2).1
        simp at this; omega
      subst hj'
      simp only [List.getElem?_concat_length, Option.some.injEq] at h2
      subst h2
      by_cases hi : i < opens.length
      · rw [List.getElem?_append_left hi] at h1
        exact top i a h1
      · have : i = opens.length := by omega
        subst this
        simp only [List.getElem?_concat_length, Option.some.injEq] at h1
        omega
/-- a state comes back -/
theorem Agree.back {first : Rules} {s : RS} {lines : List Op} {os : List Nat} {ks : List (Cfa × Rules)} {p : Cfa × Rules} {n : Nat} (A : Agree first s lines (os ++ [n])) (hk : s.kept = ks ++ [p]) : Agree first { s with kept := ks, cfa := p.1, rules := p.2 } (lines.take n) os := by
  have hl : ks.length = os.length := by have := A.len; rw [hk] at this; simpa using this
  obtain ⟨b1, b2, b3⟩ := A.kept ks.length p n (by rw [hk]; simp) (by rw [hl]; simp)
  have low : ∀ (i a : Nat), os[i]? = some a → a ≤ n := fun i a h => by
    have hi := (List.getElem?_eq_some_iff.mp h).1
    exact A.sorted i os.length a n (by omega) (by rw [List.getElem?_append_left hi]; exact h) (by simp)
  refine ⟨b2, b3, A.first', hl, fun i q a h1 h2 => ?_, fun i j a b hij h1 h2 => ?_⟩
  · have hi := (List.getElem?_eq_some_iff.mp h1).1
    have ho := (List.getElem?_eq_some_iff.mp h2).1
    obtain ⟨c1, c2, c3⟩ := A.kept i q a (by rw [hk, List.getElem?_append_left hi]; exact h1) (by rw [List.getElem?_append_left ho]; exact h2)
    have := low i a h2
    rw [List.take_take, Nat.min_eq_left this, List.length_take]
    exact ⟨by omega, c2, c3⟩
  · have hi := (List.getElem?_eq_some_iff.mp h1).1
    have hj := (List.getElem?_eq_some_iff.mp h2).1
    exact A.sorted i j a b hij (by rw [List.getElem?_append_left hi]; exact h1) (by rw [List.getElem?_append_left hj]; exact h2)
theorem go_same {s s' : RS} {a : Int} (h : s.go a = some s') : s'.cfa = s.cfa ∧ s'.rules = s.rules ∧ s'.first = s.first ∧ s'.kept = s.kept := by
  unfold RS.go at h
  split at h
  · cases h
  · split at h <;> (cases h; exact ⟨rfl, rfl, rfl, rfl⟩)
theorem agree_step {first : Rules} {s s' : RS} {lines : List Op} {opens : List Nat} {op : Op} (A : Agree first s lines opens) (ok : op.ok) (h : s.step op = some s') : ∃ lines' opens', linesStep (lines, opens) op = some (lines', opens') ∧ Agree first s' lines' opens' := by
  have go : ∀ a, ruleOf op = none → isRestore op = false → frameStep s.cfa op = some s.cfa → linesStep (lines, opens) op = some (lines ++ [op], opens) → (s.go a).elim True fun s' => ∃ lines' opens', linesStep (lines, opens) op = some (lines', opens') ∧ Agree first s' lines' opens' := fun a h1 h2 h3 h4 => by
    cases e : s.go a with
    | none => exact True.intro
    | some s1 =>
      obtain ⟨a1, a2, a3, a4⟩ := go_same e
      exact ⟨_, _, h4, A.line (by rw [a1]; exact h3) (by rw [a2, A.rules, lawRules_other h1 h2]) a3 a4⟩
  refine all_of (P := fun s' => ∃ lines' opens', linesStep (lines, opens) op = some (lines', opens') ∧ Agree first s' lines' opens') ?_ h
  clear h
  cases op with
  | nop => exact ⟨_, _, rfl, A.line rfl (by rw [A.rules, lawRules_other rfl rfl]) rfl rfl⟩
  | remember => exact ⟨_, _, rfl, A.remember⟩
  | back =>
    rcases List.eq_nil_or_concat s.kept with hk | ⟨ks, p, hk⟩
    · show Option.elim (match s.kept.getLast? with | none => none | some p => some _) True _
      rw [hk]
      exact True.intro
    · rw [List.concat_eq_append] at hk
      simp only [RS.step, hk, List.getLast?_concat, List.dropLast_concat]
      rcases List.eq_nil_or_concat opens with ho | ⟨os, n, ho⟩
      · have := A.len; rw [hk, ho] at this; simp at this
      · rw [List.concat_eq_append] at ho
        subst ho
        exact ⟨_, _, by simp only [linesStep, List.getLast?_concat, List.dropLast_concat], A.back hk⟩
  | adv a => exact go _ rfl rfl rfl rfl
  | loc a => exact go _ rfl rfl rfl rfl
  | restore m => exact ⟨_, _, rfl, A.line rfl (by rw [lawRules_restore ok, A.first', A.rules]) rfl rfl⟩
  | undef m => exact ⟨_, _, rfl, A.line rfl (by rw [lawRules_put ok rfl rfl, A.rules]; rfl) rfl rfl⟩
  | same m => exact ⟨_, _, rfl, A.line rfl (by rw [lawRules_put ok rfl rfl, A.rules]; rfl) rfl rfl⟩
  | offset m c => exact ⟨_, _, rfl, A.line rfl (by rw [lawRules_put ok rfl rfl, A.rules]; rfl) rfl rfl⟩
  | offsetX m c => exact ⟨_, _, rfl, A.line rfl (by rw [lawRules_put ok rfl rfl, A.rules]; rfl) rfl rfl⟩
  | valOff m c => exact ⟨_, _, rfl, A.line rfl (by rw [lawRules_put ok rfl rfl, A.rules]; rfl) rfl rfl⟩
  | reg m c => exact ⟨_, _, rfl, A.line rfl (by rw [lawRules_put ok rfl rfl, A.rules]; rfl) rfl rfl⟩
  | cfa m c => exact ⟨_, _, rfl, A.line rfl (by rw [A.rules, lawRules_other rfl rfl]) rfl rfl⟩
  | cfaReg m =>
    cases hc : s.cfa with
    | none =>
      show Option.elim (match s.cfa with | none => none | some p => some _) True _
      rw [hc]; exact True.intro
    | some p =>
      show Option.elim (match s.cfa with | none => none | some p => some _) True _
      rw [hc]
      exact ⟨_, _, rfl, A.line (by rw [hc]; rfl) (by rw [A.rules, lawRules_other rfl rfl]) rfl rfl⟩
  | cfaOff c =>
    cases hc : s.cfa with
    | none =>
      show Option.elim (match s.cfa with | none => none | some p => some _) True _
      rw [hc]; exact True.intro
    | some p =>
      show Option.elim (match s.cfa with | none => none | some p => some _) True _
      rw [hc]
      exact ⟨_, _, rfl, A.line (by rw [hc]; rfl) (by rw [A.rules, lawRules_other rfl rfl]) rfl rfl⟩
/-- where the reckoning falls, and no row goes back, the law's reading has no state -/
theorem agree_fall {first : Rules} {s : RS} {lines : List Op} {opens : List Nat} {op : Op} (A : Agree first s lines opens) (h : s.step op = none) (ha : ∀ a, op ≠ .adv a) (hl : ∀ a, op ≠ .loc a) :
    ∀ lines' opens', linesStep (lines, opens) op = some (lines', opens') → frameRun none lines' = none := by
  intro lines' opens' e
  have fall : ∀ op', frameStep s.cfa op' = none → frameRun none (lines ++ [op']) = none := fun op' q => by
    rw [frameRun_append, A.cfa]
    show (match frameStep s.cfa op' with | none => none | some c' => frameRun c' []) = _
    rw [q]
  cases op with
  | back =>
    rcases List.eq_nil_or_concat s.kept with hk | ⟨ks, p, hk⟩
    · have ho : opens = [] := List.eq_nil_of_length_eq_zero (by rw [← A.len, hk]; rfl)
      subst ho
      simp [linesStep] at e
    · rw [List.concat_eq_append] at hk
      simp only [RS.step, hk, List.getLast?_concat] at h; cases h
  | adv a => exact absurd rfl (ha a)
  | loc a => exact absurd rfl (hl a)
  | cfaReg m =>
    cases hc : s.cfa with
    | none => cases e; exact fall _ (by rw [hc]; rfl)
    | some p => simp only [RS.step, hc] at h; cases h
  | cfaOff m =>
    cases hc : s.cfa with
    | none => cases e; exact fall _ (by rw [hc]; rfl)
    | some p => simp only [RS.step, hc] at h; cases h
  | _ => cases h
/-- the law's reading, one operation on -/
theorem state_snoc {first : Rules} {ops lines : List Op} {opens : List Nat} {op : Op} (hr : linesRun ([], []) ops = some (lines, opens)) : lawState (ops ++ [op]) first = match linesStep (lines, opens) op with
    | none => none
    | some s => match frameRun none s.1 with
      | none => none
      | some c => some (c, lawRules first s.1) := by
  have e : linesRun ([], []) (ops ++ [op]) = linesStep (lines, opens) op := by
    rw [linesRun_append, hr]
    simp only [Option.bind_some, linesRun]
    cases linesStep (lines, opens) op <;> rfl
  unfold lawState lawLines
  rw [e]
  cases linesStep (lines, opens) op <;> rfl
/-- the fold stands with the law's reading -/
structure Stands (first : Rules) (s : RS) (ops : List Op) (lines : List Op) (opens : List Nat) : Prop where
  run : linesRun ([], []) ops = some (lines, opens)
  agree : Agree first s lines opens
theorem Stands.state {first : Rules} {s : RS} {ops lines : List Op} {opens : List Nat} (S : Stands first s ops lines opens) : lawState ops first = some (s.cfa, s.rules) := by
  unfold lawState lawLines
  rw [S.run]
  show (match frameRun none lines with | none => none | some c => some (c, lawRules first lines)) = _
  rw [S.agree.cfa, ← S.agree.rules]
theorem Stands.step {first : Rules} {s s' : RS} {ops lines : List Op} {opens : List Nat} {op : Op} (S : Stands first s ops lines opens) (ok : op.ok) (h : s.step op = some s') : ∃ lines' opens', Stands first s' (ops ++ [op]) lines' opens' := by
  obtain ⟨l', o', e, A⟩ := agree_step S.agree ok h
  refine ⟨l', o', ?_, A⟩
  rw [linesRun_append, S.run]
  simp only [Option.bind_some, linesRun, e]
theorem Stands.fall {first : Rules} {s : RS} {ops lines : List Op} {opens : List Nat} {op : Op} (S : Stands first s ops lines opens) (h : s.step op = none) (ha : ∀ a, op ≠ .adv a) (hl : ∀ a, op ≠ .loc a) : lawState (ops ++ [op]) first = none := by
  rw [state_snoc S.run]
  cases e : linesStep (lines, opens) op with
  | none => rfl
  | some q =>
    have := agree_fall S.agree h ha hl q.1 q.2 e
    show (match frameRun none q.1 with | none => none | some c => some (c, lawRules first q.1)) = none
    rw [this]
theorem stands_init (first : Rules) (a : Int) : Stands first { RS.init a with first := first } [] [] [] :=
  ⟨rfl, rfl, by funext k; simp [RS.init, lawRules, lawRule], rfl, rfl, (fun i p n h _ => by simp [RS.init] at h), (fun i j a b _ h _ => by simp at h)⟩
theorem LS.turn_of {l : LS} {s : RS} {op : Op} (h1 : l.addr = s.addr) (h2 : l.st = (s.cfa, s.rules)) (h3 : l.rows = s.rows) :
    (s.step op = none → (∃ a, op = .adv a ∨ op = .loc a) → l.turn op = none) ∧ (∀ s', s.step op = some s' → ∃ l', l.turn op = some l' ∧ l'.addr = s'.addr ∧ l'.rows = s'.rows) := by
  have mv : ∀ a, (s.go a = none → l.move a = none) ∧ (∀ s', s.go a = some s' → ∃ l', l.move a = some l' ∧ l'.addr = s'.addr ∧ l'.rows = s'.rows) := fun a => by
    unfold RS.go LS.move
    rw [h1, h2, h3]
    by_cases c1 : a < s.addr
    · rw [if_pos c1, if_pos c1]; exact ⟨fun _ => rfl, fun _ e => nomatch e⟩
    · rw [if_neg c1, if_neg c1]
      by_cases c2 : s.addr < a
      · rw [if_pos c2, if_pos c2]
        exact ⟨(fun e => nomatch e), fun s' e => by cases e; exact ⟨_, rfl, rfl, rfl⟩⟩
      · rw [if_neg c2, if_neg c2]
        exact ⟨(fun e => nomatch e), fun s' e => by cases e; exact ⟨_, rfl, by show a = s.addr; omega, rfl⟩⟩
  constructor
  · rintro h ⟨a, rfl | rfl⟩
    · have := (mv (s.addr + a)).1 h
      rw [← h1] at this; exact this
    · exact (mv a).1 h
  · have all : ∀ a b, a = b → ∀ s', s.go a = some s' → ∃ l', l.move b = some l' ∧ l'.addr = s'.addr ∧ l'.rows = s'.rows := fun a b e s' h => (mv b).2 s' (e ▸ h)
    intro s' h
    refine all_of (P := fun s' : RS => ∃ l', l.turn op = some l' ∧ l'.addr = s'.addr ∧ l'.rows = s'.rows) ?_ h
    clear h s'
    cases op with
    | adv a =>
      show Option.elim (s.go (s.addr + a)) True _
      cases e : s.go (s.addr + a) with
      | none => exact True.intro
      | some s1 => exact all _ _ (by rw [h1]) s1 e
    | loc a =>
      show Option.elim (s.go a) True _
      cases e : s.go a with
      | none => exact True.intro
      | some s1 => exact all _ _ rfl s1 e
    | back =>
      show Option.elim (match s.kept.getLast? with | none => none | some p => some _) True _
      cases s.kept.getLast? with
      | none => exact True.intro
      | some p => exact ⟨l, rfl, h1, h3⟩
    | cfaReg m =>
      show Option.elim (match s.cfa with | none => none | some p => some _) True _
      cases s.cfa with
      | none => exact True.intro
      | some p => exact ⟨l, rfl, h1, h3⟩
    | cfaOff m =>
      show Option.elim (match s.cfa with | none => none | some p => some _) True _
      cases s.cfa with
      | none => exact True.intro
      | some p => exact ⟨l, rfl, h1, h3⟩
    | _ => exact ⟨l, rfl, h1, h3⟩
theorem go_agree {heads : List Op} {first : Rules} : ∀ (r done : List Op) (s : RS) (l : LS) (lines : List Op) (opens : List Nat), Stands first s (heads ++ done) lines opens → l.addr = s.addr → l.st = (s.cfa, s.rules) → l.rows = s.rows → (∀ op ∈ r, op.ok) →
    (s.run r = none → lawGo heads first l done r = none) ∧ (∀ s', s.run r = some s' → ∃ l', lawGo heads first l done r = some l' ∧ l'.addr = s'.addr ∧ l'.st = (s'.cfa, s'.rules) ∧ l'.rows = s'.rows)
  | [], done, s, l, lines, opens, S, h1, h2, h3, _ => ⟨(fun e => nomatch e), fun s' e => by cases e; exact ⟨l, rfl, h1, h2, h3⟩⟩
  | op :: r, done, s, l, lines, opens, S, h1, h2, h3, ok => by
    have T := LS.turn_of (op := op) h1 h2 h3
    cases hs : s.step op with
    | none =>
      refine ⟨fun _ => ?_, fun s' e => by rw [RS.run, hs] at e; cases e⟩
      unfold lawGo
      by_cases hm : ∃ a, op = .adv a ∨ op = .loc a
      · rw [T.1 hs hm]
      · have hl : l.turn op = some l := by cases op <;> first | rfl | exact absurd ⟨_, .inl rfl⟩ hm | exact absurd ⟨_, .inr rfl⟩ hm
        have := S.fall hs (fun a e => hm ⟨a, .inl e⟩) (fun a e => hm ⟨a, .inr e⟩)
        rw [hl, ← List.append_assoc, this]
    | some s1 =>
      obtain ⟨l1, e1, b1, b2⟩ := T.2 s1 hs
      obtain ⟨lines', opens', S1⟩ := S.step (ok op (.head _)) hs
      have st := S1.state
      rw [List.append_assoc] at S1 st
      have R := go_agree r (done ++ [op]) s1 { l1 with st := (s1.cfa, s1.rules) } lines' opens' S1 b1 rfl b2 (fun o ho => ok o (.tail _ ho))
      have e2 : s.run (op :: r) = s1.run r := by rw [RS.run, hs]
      have e3 : lawGo heads first l done (op :: r) = lawGo heads first { l1 with st := (s1.cfa, s1.rules) } (done ++ [op]) r := by
        rw [lawGo, e1]
        show (match lawState (heads ++ (done ++ [op])) first with | none => none | some st => lawGo heads first { l1 with st := st } (done ++ [op]) r) = _
        rw [st]
      rw [e2, e3]
      exact R
/-- the heads: no restore, no remembered state, no move -/
theorem heads_run : ∀ (r done : List Op) (s : RS) (a : Int), Stands (fun _ => none) s done done [] → s.addr = a → s.rows = [] → s.kept = [] → (∀ op ∈ r, op.head ∧ op.ok) → ∃ s', s.run r = some s' ∧ Stands (fun _ => none) s' (done ++ r) (done ++ r) [] ∧ s'.addr = a ∧ s'.rows = [] ∧ s'.kept = []
  | [], done, s, a, S, h1, h2, h3, _ => ⟨s, rfl, by rw [List.append_nil]; exact S, h1, h2, h3⟩
  | op :: r, done, s, a, S, h1, h2, h3, hh => by
    have h := hh op (.head _)
    have step : ∃ s1, s.step op = some s1 ∧ s1.addr = s.addr ∧ s1.rows = s.rows ∧ s1.kept = s.kept ∧ linesStep (done, []) op = some (done ++ [op], []) := by
      cases op <;> first | exact ⟨_, rfl, rfl, rfl, rfl, rfl⟩ | exact absurd h.1 (by simp [Op.head])
    obtain ⟨s1, e1, b1, b2, b3, b4⟩ := step
    obtain ⟨l', o', e, A⟩ := agree_step S.agree h.2 e1
    rw [b4] at e; cases e
    have S1 : Stands (fun _ => none) s1 (done ++ [op]) (done ++ [op]) [] := ⟨by rw [linesRun_append, S.run]; simp only [Option.bind_some, linesRun, b4], A⟩
    obtain ⟨s', e2, S2, c⟩ := heads_run r (done ++ [op]) s1 a S1 (b1.trans h1) (b2.trans h2) (b3.trans h3) (fun o ho => hh o (.tail _ ho))
    refine ⟨s', by rw [RS.run, e1]; exact e2, ?_, c⟩
    rw [List.append_assoc] at S2; exact S2
theorem lawRules_first {f f' : Rules} {l : List Op} (h : ∀ op ∈ l, isRestore op = false) : lawRules f l = lawRules f' l := by
  funext k
  unfold lawRules lawRule
  cases e : (l.filter (onMark k)).getLast? with
  | none => rfl
  | some op =>
    have hm := List.mem_of_getLast? e
    obtain ⟨h1, h2⟩ := List.mem_filter.mp hm
    have h3 := h op h1
    simp only [onMark, h3, Bool.or_false, Bool.and_eq_true] at h2
    cases hr : ruleOf op with
    | none => rw [hr] at h2; exact absurd h2.2 (by simp)
    | some x => simp only [hr]
theorem rows_agree (f : FDE) (hh : ∀ op ∈ f.heads, op.head ∧ op.ok) (ho : ∀ op ∈ f.ops, op.ok) : f.rows = lawRows f := by
  obtain ⟨s, e, S, a1, a2, a3⟩ := heads_run f.heads [] (RS.init f.begin) f.begin (stands_init _ f.begin) rfl rfl rfl hh
  rw [List.nil_append] at S
  have nr : ∀ op ∈ f.heads, isRestore op = false := fun op h => by
    have := (hh op h).1
    cases op <;> first | rfl | exact absurd this (by simp [Op.head])
  have S' : Stands s.rules { s with first := s.rules } (f.heads ++ []) f.heads [] := by
    rw [List.append_nil]
    refine ⟨S.run, S.agree.cfa, ?_, rfl, S.agree.len, (fun i p n h => by rw [show ({ s with first := s.rules } : RS).kept = [] from a3] at h; simp at h), (fun i j a b _ h => by simp at h)⟩
    show s.rules = lawRules s.rules f.heads
    rw [lawRules_first (f' := fun _ => none) nr]; exact S.agree.rules
  have R := go_agree f.ops [] { s with first := s.rules } ⟨f.begin, (s.cfa, s.rules), []⟩ f.heads [] S' a1.symm rfl a2.symm ho
  unfold FDE.rows lawRows
  rw [e, S.state]
  show (match RS.run { s with first := s.rules } f.ops with | none => none | some s' => some s'.end') = (match lawGo f.heads s.rules ⟨f.begin, (s.cfa, s.rules), []⟩ [] f.ops with | none => none | some s => some (s.rows ++ [⟨s.addr, s.st.1, s.st.2⟩]))
  cases hs : RS.run { s with first := s.rules } f.ops with
  | none => rw [R.1 hs]
  | some s' =>
    obtain ⟨l', e2, c1, c2, c3⟩ := R.2 s' hs
    rw [e2]
    show some s'.end' = some (l'.rows ++ [⟨l'.addr, l'.st.1, l'.st.2⟩])
    rw [c1, c2, c3]; rfl
/-- the first row stands at the head's address -/
noncomputable def HeadAt (a : Int) (s : RS) : Prop := (s.rows = [] → s.addr = a) ∧ ∀ r rs, s.rows = r :: rs → r.addr = a
theorem HeadAt.step {a : Int} {s s' : RS} {op : Op} (H : HeadAt a s) (h : s.step op = some s') : HeadAt a s' := by
  have same : ∀ s' : RS, s'.rows = s.rows → s'.addr = s.addr → HeadAt a s' := fun s' e1 e2 => ⟨fun e => by rw [e2]; exact H.1 (e1 ▸ e), fun r rs e => H.2 r rs (e1 ▸ e)⟩
  have go : ∀ g, s.go g = some s' → HeadAt a s' := fun g e => by
    unfold RS.go at e
    split at e
    · cases e
    · split at e
      · cases e
        refine ⟨fun e => by simp at e, fun r rs e => ?_⟩
        cases hr : s.rows with
        | nil =>
          simp only [hr, List.nil_append, List.cons.injEq] at e
          rw [← e.1]; exact H.1 hr
        | cons r0 rs0 =>
          simp only [hr, List.cons_append, List.cons.injEq] at e
          rw [← e.1]; exact H.2 r0 rs0 hr
      · cases e; exact H
  cases op with
  | adv g => exact go _ h
  | loc g => exact go _ h
  | back => simp only [RS.step] at h; split at h <;> first | (cases h; done) | (cases h; exact same _ rfl rfl)
  | cfaReg m => simp only [RS.step] at h; split at h <;> first | (cases h; done) | (cases h; exact same _ rfl rfl)
  | cfaOff m => simp only [RS.step] at h; split at h <;> first | (cases h; done) | (cases h; exact same _ rfl rfl)
  | _ => cases h; exact same _ rfl rfl
theorem HeadAt.run {a : Int} {s s' : RS} {l : List Op} (H : HeadAt a s) (h : s.run l = some s') : HeadAt a s' := by
  induction l generalizing s with
  | nil => cases h; exact H
  | cons op l ih =>
    rw [RS.run] at h
    cases e : s.step op with
    | none => rw [e] at h; cases h
    | some s1 => rw [e] at h; exact ih (H.step e) h
theorem rows_head {f : FDE} {rows : List Row} (h : f.rows = some rows) : ∃ r rs, rows = r :: rs ∧ r.addr = f.begin := by
  unfold FDE.rows at h
  cases e1 : (RS.init f.begin).run f.heads with
  | none => rw [e1] at h; cases h
  | some s =>
    rw [e1] at h
    dsimp only at h
    cases e2 : RS.run { s with first := s.rules } f.ops with
    | none => rw [e2] at h; cases h
    | some s' =>
      rw [e2] at h
      cases h
      have H0 : HeadAt f.begin (RS.init f.begin) := ⟨fun _ => rfl, fun _ _ e => nomatch e⟩
      have H1 := H0.run e1
      have H2 : HeadAt f.begin s' := HeadAt.run (s := { s with first := s.rules }) ⟨H1.1, H1.2⟩ e2
      unfold RS.end'
      cases hr : s'.rows with
      | nil => exact ⟨_, _, rfl, H2.1 hr⟩
      | cons r rs => exact ⟨r, _, rfl, H2.2 r rs hr⟩
/-- the last row at or ahead of an address, found forwards -/
theorem found_last (pc : Int) : ∀ (rows : List Row) (f : Option Row), rows.foldl (fun f r => if r.addr ≤ pc then some r else f) f = match (rows.filter fun r => decide (r.addr ≤ pc)).getLast? with | some r => some r | none => f
  | [], f => rfl
  | r :: rows, f => by
    rw [List.foldl_cons, found_last pc rows]
    by_cases h : r.addr ≤ pc
    · rw [if_pos h, List.filter_cons_of_pos (by simpa using h)]
      cases e : rows.filter fun r => decide (r.addr ≤ pc) with
      | nil => rfl
      | cons q qs => rw [List.getLast?_cons_cons]; cases e2 : (q :: qs).getLast? with
        | none => simp at e2
        | some z => rfl
    · rw [if_neg h, List.filter_cons_of_neg (by simpa using h)]
/-- the tuples that stood stand -/
noncomputable def UpT (h h' : Heap) : Prop := ∀ b vs n, h.get? b = some (tupOb vs n) → h'.get? b = some (tupOb vs n)
theorem CfaIn.keepT {h h' : Heap} {v : Value} {c : Cfa} (x : CfaIn h v c) (k : UpT h h') : CfaIn h' v c := by
  cases x with
  | nil => exact .nil
  | pair e => exact .pair (k _ _ _ e)
theorem RuleIn.keepT {h h' : Heap} {v : Value} {r : Rule} (x : RuleIn h v r) (k : UpT h h') : RuleIn h' v r := by
  cases x with
  | mk e => exact .mk (k _ _ _ e)
theorem Bears.keepT {h h' : Heap} {kvs : List (Int × Value)} {f : Rules} (x : Bears h kvs f) (k : UpT h h') : Bears h' kvs f :=
  ⟨fun i v e => let ⟨r, h1, h2⟩ := x.val i v e; ⟨r, h1, h2.keepT k⟩, x.dom, x.keys⟩
/-- what is not hidden -/
theorem hide_upT {h h' : Heap} {Z : List Addr} (k : ∀ b o, h.get? b = some o → b ∉ Z → h'.get? b = some o) (hn : ∀ a ∈ Z, ∀ vs n, h.get? a ≠ some (tupOb vs n)) : UpT h (hideAll h' Z) := fun b vs n e =>
  have hb : b ∉ Z := fun q => hn b q vs n e
  hideAll_get _ (k b _ e hb) hb
theorem RulesAt.keepT {w : World} {h h' : Heap} {d : Addr} {f : Rules} (x : RulesAt w h d f) (kd : ∀ o, h.get? d = some o → h'.get? d = some o) (k : UpT h h') : RulesAt w h' d f :=
  let ⟨o, kvs, h1, h2, h3, h4⟩ := x; ⟨o, kvs, kd _ h1, h2, h3, h4.keepT k⟩
/-- a state, as the law holds it -/
inductive LotState (w : World) (h : Heap) (v : Value) (st : Cfa × Rules) : Prop
  | mk (T cv D n : _) : (v = .ref T) → (h.get? T = some (tupOb [cv, .ref D] n)) → CfaIn h cv st.1 → RulesAt w h D st.2 → LotState w h v st
/-- a row, as the law holds it -/
inductive LotRow (w : World) (h : Heap) (v : Value) (r : Row) : Prop
  | mk (T t cv D n : _) : (v = .ref T) → (h.get? T = some (tupOb [.int r.addr t, cv, .ref D] n)) → CfaIn h cv r.cfa → RulesAt w h D r.rules → LotRow w h v r
theorem LotState.up {w : World} {h h' : Heap} {v : Value} {st : Cfa × Rules} (x : LotState w h v st) (k : Up h h') : LotState w h' v st :=
  let ⟨T, cv, D, n, e, h1, h2, h3⟩ := x; ⟨T, cv, D, n, e, k _ _ h1, h2.keeps k, h3.keeps k⟩
theorem LotRow.up {w : World} {h h' : Heap} {v : Value} {r : Row} (x : LotRow w h v r) (k : Up h h') : LotRow w h' v r :=
  let ⟨T, t, cv, D, n, e, h1, h2, h3⟩ := x; ⟨T, t, cv, D, n, e, k _ _ h1, h2.keeps k, h3.keeps k⟩
theorem lots_up {w : World} {h h' : Heap} (k : Up h h') {vs : List Value} {l : List Row} (x : All2 (LotRow w h) vs l) : All2 (LotRow w h') vs l := x.imp fun _ _ r => r.up k
/-- what _law_rows gives back -/
noncomputable def LotRes (w : World) (h h' : Heap) (v : Value) (r : Option (List Row)) : Prop := match r with
  | none => v = .none
  | some l => ∃ R vs n, v = .ref R ∧ h.get? R = none ∧ h'.get? R = some (listOf (List.toArray vs) n) ∧ All2 (LotRow w h') vs l
theorem lawGo_append (heads : List Op) (first : Rules) (s : LS) (done l r : List Op) : lawGo heads first s done (l ++ r) = (lawGo heads first s done l).bind fun s' => lawGo heads first s' (done ++ l) r := by
  induction l generalizing s done with
  | nil => rw [List.nil_append, List.append_nil]; rfl
  | cons op l ih =>
    rw [List.cons_append, lawGo, lawGo]
    cases s.turn op with
    | none => rfl
    | some s' =>
      dsimp only
      cases lawState (heads ++ (done ++ [op])) first with
      | none => rfl
      | some st =>
        dsimp only
        rw [ih, List.append_assoc]
        rfl
theorem lawGo_take {heads : List Op} {first : Rules} {s l : LS} {ops : List Op} {i : Nat} {op : Op} (hi : ops[i]? = some op) (h : lawGo heads first s [] (ops.take i) = some l) : lawGo heads first s [] (ops.take (i + 1)) = match l.turn op with
    | none => none
    | some l' => match lawState (heads ++ ops.take (i + 1)) first with
      | none => none
      | some st => some { l' with st := st } := by
  have e : ops.take (i + 1) = ops.take i ++ [op] := by rw [List.take_add_one, hi]; rfl
  rw [e, lawGo_append, h]
  all_goals simp only [Option.bind_some, List.nil_append, lawGo]
  all_goals (cases l.turn op with
    | none => rfl
    | some l' => dsimp only; cases lawState (heads ++ (ops.take i ++ [op])) first <;> rfl)
theorem lawGo_none {heads : List Op} {first : Rules} {s : LS} {ops : List Op} (i : Nat) (h : lawGo heads first s [] (ops.take i) = none) : lawGo heads first s [] ops = none := by
  have e : ops = ops.take i ++ ops.drop i := (List.take_append_drop _ _).symm
  rw [e, lawGo_append, h]; rfl
theorem turn_few {l l' : LS} {op : Op} {n : Nat} (h : l.turn op = some l') (hn : l.rows.length ≤ n) : l'.rows.length ≤ n + 1 := by
  have mv : ∀ a, l.move a = some l' → l'.rows.length ≤ n + 1 := fun a e => by
    unfold LS.move at e
    split at e
    · cases e
    · cases e
      dsimp only
      split
      · rw [List.length_append]; simpa using hn
      · exact Nat.le_succ_of_le hn
  cases op <;> first | exact mv _ h | (cases h; exact Nat.le_succ_of_le hn)
theorem go_few {heads : List Op} {first : Rules} {s l : LS} {ops : List Op} (hs : s.rows = []) : ∀ (i : Nat), lawGo heads first s [] (ops.take i) = some l → l.rows.length ≤ i := by
  intro i
  induction i generalizing l with
  | zero => intro h; cases h; rw [hs]; exact Nat.le_refl _
  | succ i ih =>
    intro h
    cases hop : ops[i]? with
    | none =>
      have hle : ops.length ≤ i := by simpa using hop
      rw [List.take_of_length_le (by omega), ← List.take_of_length_le hle] at h
      exact Nat.le_succ_of_le (ih h)
    | some op =>
      cases hp : lawGo heads first s [] (ops.take i) with
      | none =>
        have e : ops.take (i + 1) = ops.take i ++ [op] := by rw [List.take_add_one, hop]; rfl
        rw [e, lawGo_append, hp] at h; cases h
      | some l0 =>
        rw [lawGo_take hop hp] at h
        cases ht : l0.turn op with
        | none => rw [ht] at h; cases h
        | some l1 =>
          rw [ht] at h
          dsimp only at h
          cases hst : lawState (heads ++ ops.take (i + 1)) first with
          | none => rw [hst] at h; cases h
          | some st =>
            rw [hst] at h
            cases h
            exact (turn_few ht (ih hp) : l1.rows.length ≤ i + 1)
theorem LS.move_lt {l : LS} {a : Int} (h : a < l.addr) : l.move a = none := if_pos h
theorem LS.move_gt {l : LS} {a : Int} (h : l.addr < a) : l.move a = some { l with rows := l.rows ++ [⟨l.addr, l.st.1, l.st.2⟩], addr := a } := by
  unfold LS.move; rw [if_neg (by omega), if_pos h]
theorem LS.move_eq {l : LS} {a : Int} (h1 : ¬ a < l.addr) (h2 : ¬ l.addr < a) : l.move a = some { l with addr := a } := by
  unfold LS.move; rw [if_neg h1, if_neg h2]
theorem name_adv {op : Op} : op.name = Str.ofString "advance_loc" ↔ ∃ a, op = .adv a := by cases op <;> simp [Op.name] <;> decide
theorem name_loc {op : Op} : op.name = Str.ofString "set_loc" ↔ ∃ a, op = .loc a := by cases op <;> simp [Op.name] <;> decide
theorem turn_other {l : LS} {op : Op} (h1 : ∀ a, op ≠ .adv a) (h2 : ∀ a, op ≠ .loc a) : l.turn op = some l := by
  cases op <;> first | rfl | exact absurd rfl (h1 _) | exact absurd rfl (h2 _)
/-- a frame that holds a name is no dict of rules -/
theorem dict_ne_ns {w : World} {g h : Heap} {d L : Addr} {f : Rules} {m : Str → Option Value} {x : Str} {v : Value} (R : RulesAt w h d f) (F : Fr g L h m) (hm : m x = some v) : d ≠ L := fun q => by
  subst q
  obtain ⟨o, kvs, e1, _, ⟨es, ep, _, hd, hk, _, _⟩, _⟩ := R
  obtain ⟨oL, es', ep', eL, hdL, hs, hf⟩ := F.ns
  rw [e1] at eL
  cases eL
  rw [hd] at hdL
  cases hdL
  have hx := hf x
  rw [hm] at hx
  rcases es with ⟨_ | ⟨e, r⟩⟩
  · cases hx
  · obtain ⟨n, t, hn⟩ := hs e (by simp)
    obtain ⟨k, hk1, _⟩ := hk e (by simp)
    rw [hn] at hk1
    cases hk1
/-- a row's dict is no frame that holds pc -/
theorem row_ne_ns {g h : Heap} {dx L : Addr} {m : Str → Option Value} {q1 q2 q3 : Int × Tok} {v1 v2 v3 v : Value} {n : Nat} (e : h.get? dx = some (dictOf [ent (Str.ofString "address") q1 v1, ent (Str.ofString "cfa") q2 v2, ent (Str.ofString "rules") q3 v3] n)) (F : Fr g L h m) (hm : m (Str.ofString "pc") = some v) : dx ≠ L := fun q => by
  subst q
  obtain ⟨oL, es', ep', eL, hdL, hs, hf⟩ := F.ns
  rw [e] at eL
  cases eL
  cases hdL
  have hx := hf (Str.ofString "pc")
  rw [hm] at hx
  cases hx
theorem inst_ne_ns {g h : Heap} {x L C dx : Addr} {m : Str → Option Value} (e : h.get? x = some (instObj C dx)) (F : Fr g L h m) : x ≠ L := fun q => by
  subst q
  obtain ⟨oL, es', ep', eL, hdL, _⟩ := F.ns
  rw [e] at eL
  cases eL
  cases hdL
/-- a row stays where the frame alone changes -/
theorem RowIn.kept {w : World} {g h h' : Heap} {L : Addr} {m : Str → Option Value} {v pv : Value} {r : Row} (x : RowIn w h v r) (F : Fr g L h m) (hm : m (Str.ofString "pc") = some pv) (k : Kept [L] h h') : RowIn w h' v r := by
  cases x with
  | mk h1 h2 h3 h4 =>
    have nt := ns_notTup F
    have kk : ∀ b o, b ≠ L → h.get? b = some o → h'.get? b = some o := fun b o n e => k b o (fun q => n (List.mem_singleton.mp q)) e
    have uT : UpT h h' := fun b vs n e => kk b _ (fun q => nt vs n (q ▸ e)) e
    exact .mk (kk _ _ (inst_ne_ns h1 F) h1) (kk _ _ (row_ne_ns h2 F hm) h2) (h3.keepT uT) (h4.keepT (fun o e => kk _ _ (dict_ne_ns h4 F hm) e) uT)
/-- an object of a class in what the frame alone changes -/
theorem inst_rest {g h h9 : Heap} {L x C dx : Addr} {m m0 : Str → Option Value} {own led : List (Addr × Obj)} {es : List DictEntry} {n : Nat} (F : Fr g L h9 m) (N : News g L h9 led) (F0 : Fr g L h m0 ∧ True) (hown : restOf g h L [] = own) (hx : h.get? x = some (instObj C dx)) (hd : h.get? dx = some (dictOf es n)) (hn : dx ≠ L) (sub : ∀ p ∈ own, p ∈ led) : InstAt h9 x (instObj C dx) C (some (dictOf es n)) := by
  have k : Kept [L] h h9 := rest_kept F0.1 F N (fun p hp => sub p (hown ▸ hp))
  exact ⟨k _ _ (fun q => inst_ne_ns hx F0.1 (List.mem_singleton.mp q)) hx, rfl, rfl, k _ _ (fun q => hn (List.mem_singleton.mp q)) hd⟩
theorem lines_L4 : True := by
  k_with_none
  (k_with "execs cons" => (k_here; first | ((fail_if_success (fail_if_success k_gentoks)); (refine tok_letter ?_); intro tk) | (with_reducible refine execs_one ?_) | (with_reducible refine execs_cons_L ?_; intro Q9 hQ9)))
  (k_with "Behind" => ((rename (∀ f s', _ → Behind _ f s') => hB9); first | ((with_reducible refine hB9 _ _ ?_); (try dsimp only)) | (clear hB9; k_extra "Behind")))
  (k_with "subscriptTail" => (k_here; (with_reducible show wpAny _ _ (subscriptTail _ _ (Value.ref _) (Value.int 0 _)) _ _ _); k_dflt (refine' tup_item0 ?tzL41 ?_ (by with_unfolding_all rfl) (by intro _; with_unfolding_all rfl); (case tzL41 => ktr_rel); k_whole)))
  (k_with "subscriptTail" => (k_here; (with_reducible show wpAny _ _ (subscriptTail _ _ (Value.ref _) (Value.int 1 _)) _ _ _); k_dflt (refine' tup_item1 ?tzL42 ?_ (by with_unfolding_all rfl) (by intro _; with_unfolding_all rfl); (case tzL42 => ktr_rel); k_whole)))
  (k_with "compareOp Eq str str" => (k_here; (with_reducible refine str_eqF (by assumption) ?_)))
  (k_with "newTuple" => (k_here; k_dflt (refine' kup_newTuple ?FzL44 ?NzL44 ?_ ?zzL44; (case FzL44 => k_asm); (case NzL44 => k_asm); (case zzL44 => kmk_size)); intro _ _ _ _ l1; (try k_lt l1); (try k_sweep)))
  (k_with "compareOp In str ref" => (k_here; (with_reducible show wpAny _ _ (compareOp CmpOp.In (Value.str _ _) (Value.ref _)) _ _ _); k_dflt (refine in2F (News.isTup (by k_asm) (by k_mem)) (by assumption) (by assumption) ?_)))
  (k_with "compareOp Eq ref ref" => (k_here; (with_reducible show wpAny _ _ (compareOp CmpOp.Eq (Value.ref _) (Value.ref _)) _ _ _); k_dflt (first | refine eq_nilT (by is_list) (by is_list) (by units_room) ?_ | refine eq_nilF (vs := _) (v := _) (by is_list) (by is_list) (by units_room) ?_)))
  (k_with "call builtin:list.pop" => (k_here; (with_reducible show wpAny _ _ (call (Value.builtin _) [Value.ref _]) _ _ _); k_dflt (refine' lpop_K ?FzL47 ?NzL47 ?UzL47 ?zzL47 ?_; (case FzL47 => k_asm); (case NzL47 => k_asm); (case UzL47 => k_upd); (case zzL47 => assumption)); (intro _ _ N'; (try dsimp only [List.nil_append, List.cons_append] at N'))))
  (k_with "exec If" => (k_here; (with_reducible show wpAny _ _ (exec (Stmt.If (PySem.Expr.Compare (PySem.Expr.Name _ _) [CmpOp.Eq] [PySem.Expr.Constant (Const.str _) _ _] _) _ _ _) _) _ _ _); k_dflt (first | (refine' if_eqF ?FzL48 ?vzL48 ?ezL48 ?_ ?azL48 ?bzL48 ?dzL48; (case FzL48 => k_asm); (case azL48 => exact rfl); (case bzL48 => exact rfl); (case dzL48 => decide); (case vzL48 => first | exact rfl | assumption); (case ezL48 => first | with_reducible assumption | decide); k_whole) | (refine' if_eqT ?FzL48 ?vzL48 ?ezL48 ?_ ?azL48 ?bzL48 ?dzL48; (case FzL48 => k_asm); (case azL48 => exact rfl); (case bzL48 => exact rfl); (case dzL48 => decide); (case vzL48 => first | exact rfl | assumption); (case ezL48 => first | with_reducible rfl | with_reducible assumption); k_whole))))
  (k_with "exec If" => (k_here; (with_reducible show wpAny _ _ (exec (Stmt.If (PySem.Expr.Compare (PySem.Expr.Name _ _) [CmpOp.NotEq] [PySem.Expr.Constant (Const.str _) _ _] _) _ _ _) _) _ _ _); k_dflt (first | (refine' if_neT ?FzL49 ?vzL49 ?ezL49 ?_ ?azL49 ?bzL49 ?dzL49; (case FzL49 => k_asm); (case azL49 => exact rfl); (case bzL49 => exact rfl); (case dzL49 => decide); (case vzL49 => first | exact rfl | assumption); (case ezL49 => first | with_reducible assumption | decide); k_whole) | (refine' if_neF ?FzL49 ?vzL49 ?ezL49 ?_ ?azL49 ?bzL49 ?dzL49; (case FzL49 => k_asm); (case azL49 => exact rfl); (case bzL49 => exact rfl); (case dzL49 => decide); (case vzL49 => first | exact rfl | assumption); (case ezL49 => first | with_reducible rfl | with_reducible assumption); k_whole))))
  (k_with "exec If" => (k_here; (with_reducible show wpAny _ _ (exec (Stmt.If (PySem.Expr.Compare (PySem.Expr.Name _ _) [CmpOp.In] [PySem.Expr.Tuple _ _ _] _) _ _ _) _) _ _ _); k_dflt (first | (refine' if_inT ?FzL410 ?NzL410 ?vzL410 ?lzL410 ?zzL410 ?ezL410 ?_ ?azL410 ?bzL410 ?dzL410; (case FzL410 => k_asm); (case NzL410 => k_asm); (case lzL410 => repeat constructor); (case zzL410 => decide); (case azL410 => exact rfl); (case bzL410 => exact rfl); (case dzL410 => decide); (case vzL410 => first | exact rfl | assumption); (case ezL410 => first | decide | with_reducible assumption); k_whole; intro h' tk' F' N'; (try k_sweep)) | (refine' if_inF ?FzL410 ?NzL410 ?vzL410 ?lzL410 ?zzL410 ?ezL410 ?_ ?azL410 ?bzL410 ?dzL410; (case FzL410 => k_asm); (case NzL410 => k_asm); (case lzL410 => repeat constructor); (case zzL410 => decide); (case azL410 => exact rfl); (case bzL410 => exact rfl); (case dzL410 => decide); (case vzL410 => first | exact rfl | assumption); (case ezL410 => first | with_reducible assumption | decide | (simp only [List.mem_cons, List.not_mem_nil, or_false, not_or]; refine ⟨?_, ?_⟩ <;> with_reducible assumption) | (simp only [List.mem_cons, List.not_mem_nil, or_false, not_or]; refine ⟨?_, ?_, ?_⟩ <;> with_reducible assumption)); k_whole; intro _ _ _ _; (try k_sweep)))))
  (k_with "assign Tuple" => (k_here; (with_reducible show wpAny _ _ (assign (PySem.Expr.Tuple [PySem.Expr.Name _ _, PySem.Expr.Name _ _] _ _) _ (Value.ref _)) _ _ _); k_dflt (refine' pair_L ?FzL411 ?NzL411 ?tzL411 ?hzL411 ?_ ?azL411 ?bzL411 ?czL411; (case FzL411 => k_asm); (case NzL411 => k_asm); (case tzL411 => ktr_rel); (case hzL411 => exact rfl); (case azL411 => exact rfl); (case bzL411 => exact rfl); (case czL411 => exact rfl); k_whole); intro _ _ _ _; (try k_sweep)))
  (k_with "call builtin:list.append" => (k_here; (with_reducible show wpAny _ _ (call (Value.builtin _) [Value.ref _, _]) _ _ _); k_dflt (refine' append_K ?k1zL412 ?k2zL412 ?k3zL412 ?_ ?zzL412; (case k1zL412 => k_asm); (case k2zL412 => k_asm); (case k3zL412 => k_upd); (case zzL412 => ktr_room); k_whole); intro _ _ _; (try k_sweep)))
  (k_with "eval Dict nil nil" => (k_here; k_dflt (refine' newDict_K ?k1zL413 ?k2zL413 (TopRead.nolimit (by k_asm)) (Held.out ?_); (case k1zL413 => k_asm); (case k2zL413 => k_asm); k_whole)))
  (k_with "call ref" => (k_here; (with_reducible show wpAny _ _ (call (Value.ref 220) [Value.ref _, Value.ref _]) _ _ _); refine Held.out ?_))
  (k_with "call type:enumerate" => (k_here; (with_reducible show wpAny _ _ (call (Value.type _) [Value.ref _]) _ _ _); refine Held.out ?_))
  (k_with "eval Name" => (k_here; k_dflt (refine' nameX_L ?FzL416 ?vzL416 ?_ ?azL416 ?bzL416; (case FzL416 => k_asm); (case azL416 => rfl); (case bzL416 => rfl); (case vzL416 => assumption); k_whole)))
  (k_with "binaryOp Add ref ref" => (k_here; (with_reducible show wpAny _ _ (binaryOp _ (Value.ref _) (Value.ref _)) _ _ _); k_dflt (refine' cat_K ?FzL417 ?NzL417 ?azL417 ?bzL417 ?zzL417 ?_; (case FzL417 => k_asm); (case NzL417 => k_asm); (case azL417 => is_list); (case bzL417 => is_list); (case zzL417 => ktr_room); k_whole); intro _ _ _ _ l9 _; (try k_lt l9); (try dsimp only)))
  (k_with "binaryOp Add ref ref" => (k_here; (with_reducible show wpAny _ _ (binaryOp _ (Value.ref _) (Value.ref _)) _ _ _); k_dflt (refine' tadd_K ?FzL418 ?NzL418 ?tzL418 ?bzL418 ?_; (case FzL418 => k_asm); (case NzL418 => k_asm); (case tzL418 => ktr_rel); (case bzL418 => ktr_rel); k_whole); intro _ _ _ _ l9; (try k_lt l9); (try dsimp only)))
  (k_with "subscriptTail Name Slice ref ref" => (k_here; (with_reducible show wpAny _ _ (subscriptTail _ (PySem.Expr.Slice _ _ none _) (Value.ref _) (Value.ref _)) _ _ _); k_dflt (refine' kmk_slice_lit ?FzL419 ?NzL419 ?lzL419 ?pzL419 ?qzL419 ?ezL419 ?_ ?szL419 ?tzL419 ?zzL419; (case FzL419 => k_asm); (case NzL419 => k_asm); (case lzL419 => exact Heap.IsList.at (by assumption) (Fr.keep (by assumption) _)); (case pzL419 => kmk_part); (case qzL419 => kmk_part); (case ezL419 => exact pick_upto1); (case szL419 => with_unfolding_all rfl); (case tzL419 => kmk_pure); (case zzL419 => ktr_room)); intro _ _ _ _ l1; (try k_lt l1); (try k_sweep); (try dsimp only)))
  (k_with "exec For" => (k_here; (with_reducible show wpAny _ _ (exec (Stmt.For _ _ _ _ _) _) _ _ _); refine Held.out ?_))
  (k_with "execs cons" => (k_here; (with_reducible show wpAny _ _ (execs (Stmt.If (PySem.Expr.Compare (PySem.Expr.Name _ _) [CmpOp.In] [PySem.Expr.Tuple _ _ _] _) _ _ _ :: _) _) _ _ _); refine Held.out ?_))
  (k_with "m k_lt" => (intro hlt9; replace hlt9 := allLt_of hlt9; dsimp only [AllLt] at hlt9; revert hlt9))
  (k_with "m k_ne" => ((refine neN ?_; (try dsimp only); first | (with_reducible assumption) | (with_reducible exact Ne.symm (by assumption)) | omega)))
  (k_with "m k_inst" => (exact inst_base (by with_reducible assumption) (by with_reducible assumption) (by with_reducible assumption)))
  (k_with "m k_room" => (((try simp only [depth_under_make, depth_under_kw, depth_in1, depth_deeper, depth_caller]); (try dsimp only [arT]); omega)))
  (k_with "m ktr_rel" => (first | exact Fr.tup (by assumption) (by assumption) | exact tup2 (by assumption) (by assumption) (by assumption) | exact tup3 (by assumption) (by assumption) (by assumption) (by assumption) | exact News.isTup (by k_asm) (by k_mem)))
  (k_with "m ktr_rel" => (exact tup_rest (by k_asm) (by k_asm) (by assumption) (by assumption) (by assumption) (by intro p hp; k_ownIn)))
  (k_with "m k_handed" => (assumption))
  (k_with "m units_room" => (((try simp only [units_in1, units_deeper, Around.mark_units, units_caller]); (try dsimp only [arT]); (have hcL9 := cLine_is); (try simp only [cLine] at *); omega)))
  (k_with "m ktr_room" => ((rw [sizeLine_eq]; (try simp only [List.size_toArray, List.length_append, List.length_cons, List.length_nil]); omega)))
  (k_with "m ktr_rel" => (exact tup_restA (by k_asm) (by k_asm) (by assumption) (by assumption) (by assumption) (by assumption) (by intro p hp; k_ownIn)))
  trivial

/-- how the loop over the operations stands -/
inductive JLot (w : World) (g : Heap) (L a R D : Addr) (wr : List Addr) (heads ops : List Op) (first : Rules) (s0 : LS) (i : Nat) (h : Heap) : Prop
  | mk (m : Str → Option Value) (l : LS) (sv : Value) (rvs : List Value) (rn : Nat) (t : Tok) : Fr g L h m → ((m (Str.ofString "fde") = some (.ref a) ∧ m (Str.ofString "state") = some sv ∧ m (Str.ofString "address") = some (.int l.addr t) ∧ m (Str.ofString "rows") = some (.ref R) ∧ m (Str.ofString "first") = some (.ref D))) → (lawGo heads first s0 [] (ops.take i) = some l) → (h.get? R = some (listOf rvs.toArray rn)) → All2 (LotRow w (hideAll h (L :: R :: wr))) rvs l.rows → LotState w (hideAll h (L :: R :: wr)) sv l.st → RulesAt w (hideAll h (L :: R :: wr)) D first → JLot w g L a R D wr heads ops first s0 i h
theorem rules_none {w : World} {h : Heap} {d : Addr} {o : Obj} (e : h.get? d = some o) (l : (d == sysModules) = false) (i : o.IsDictOf (iK w) []) : RulesAt w h d (fun _ => none) := ⟨o, [], e, l, i, ⟨(fun _ _ e => nomatch e), (fun _ _ => rfl), (fun _ e => nomatch e)⟩⟩
/-- where the ways of a turn meet -/
inductive JTurn (w : World) (g : Heap) (L a R D : Addr) (wr : List Addr) (i : Nat) (t' : Tok) (l : LS) (op : Op) (rules : Rules) (h : Heap) (s s' : Shared) : Prop
  | mk (h' : Heap) (tk' : Nat) (m' : Str → Option Value) (l' : LS) (rvs' : List Value) (rn' : Nat) (ta' : Tok) : (s' = { s with heap := h', toks := tk' }) → Fr g L h' m' → (m' (Str.ofString "fde") = some (.ref a)) → (m' (Str.ofString "address") = some (.int (LS.addr l') ta')) → (m' (Str.ofString "rows") = some (.ref R)) → (m' (Str.ofString "first") = some (.ref D)) → (m' (Str.ofString "at") = some (.int i t')) →
      (l.turn op = some l') → (h'.get? R = some (listOf (List.toArray rvs') rn')) → All2 (LotRow w (hideAll h' (L :: R :: wr))) rvs' l'.rows → RulesAt w (hideAll h' (L :: R :: wr)) D rules → Kept [L, R] h h' → JTurn w g L a R D wr i t' l op rules h s s'
set_option maxHeartbeats 16000000 in
theorem rows_h {w : World} {loose : List Str} {mean : ExcName → Option Value} {mg mb : Str → Option Value} {A₀ : Around} {dp un : Nat} {gd : Option (List Code)} {env : Env} {outer : List Env} {base h₀ : Heap} {L : Addr} {m : Str → Option Value} {s : Shared} {Q E : Value → Shared → Prop} {a : Addr} {f : FDE}
    (B : Below A₀ base outer h₀) (F : Fr h₀ L s.heap m) (X : (hd.heap_1 w.params).In h₀) (T : Top topProg loose mean mg mb h₀)
    (hf : env.frame = some L) (hk : env.scope.kind = .function) (hroom : dp + 16 < recursionLimit) (hun : un + 400 < cLine) (hf' : FdeIn s.heap a f) (hlen : f.heads.length ≤ 100 ∧ f.ops.length ≤ 100)
    (hq : ∀ v h' tk', Up s.heap h' → LotRes w s.heap h' v (lawRows f) → Q v { s with heap := h', toks := tk' }) :
    wpAny (model PySem.Challenge.rw_on0310_01.row.prog w) (arT dp un gd env outer) (call (.ref 227) [.ref a]) Q E s := by
  revert X; k_fill; intro X
  have N : News h₀ L s.heap [] := fun p hp => by cases hp
  refine letter fun Qg hg => ?_
  obtain ⟨da, c, dc, hl, ol, q1, q2, q3, q4, p1, p2, p3, p4, n, m', nh, no, t1, t2, v1, v2, v3, hv, ov, g1, g2, g3, g4, g5, g6, g7, g8⟩ := hf'
  refine hg ?_
  clear hg
  k_dflt (refine' enter2 (binds := [(Str.ofString "fde", .ref a)]) B F X T N rfl hf hk ?k6 ?k7 ?k8 ?k9 ?kB ?_ ?c2 ?c3 ?c4 ?c5; (case k6 => k_is); (case k7 => k_is); (case k8 => show dp < _; omega); (case k9 => exact BindsTo.of_eq rfl); (case c5 => decide); (case kB => exact locs rfl); (case c2 => exact rfl); (case c3 => exact rfl); (case c4 => exact rfl); k_whole; intro g L' h' tk0 QQ EE hg hk₁ hL' F' N' B' X' T' hR hNx hEx hPo; (try dsimp only); (try k_fold))

  have up : Up s.heap g := fun b o e => hg b o List.not_mem_nil e
  clear hg hk₁
  replace g1 := up _ _ g1
  replace g2 := up _ _ g2
  replace g3 := up _ _ g3
  replace g4 := up _ _ g4
  replace g5 := up _ _ g5
  replace g6 := up _ _ g6
  replace g7 := ops_up up g7
  replace g8 := ops_up up g8
  have g5l : g.IsList hl hv.toArray := ⟨_, g5, rfl, nh, rfl⟩
  have g6l : g.IsList ol ov.toArray := ⟨_, g6, rfl, no, rfl⟩
  have hlh := g7.length
  have hlo := g8.length
  dsimp only [ent] at g2 g4
  w_strict k_steps
  unfold Held
  intro rd hR1 oR FR NR lR loR hsR fsR hiR fiR
  w_strict k_steps
  unfold Held
  (with_reducible rename Fr _ _ _ _ => F1)
  (with_reducible rename News _ _ _ _ => N1)
  refine state_h (ops := f.heads) (first := fun _ => none) B' F1 X' T' rfl rfl (by k_room) (by units_room) ⟨_, F1.keep _ _ g5, rfl, nh, rfl⟩ (ops_up F1.keep g7) (by omega) (rules_none (N1 _ (.head _)).1 loR hiR) fun v h1 tk1 up1 r1 => ?_
  have F2 := F1.keeps up1
  have nL0 := fr_there F1
  clear F1 N1 lR
  obtain ⟨own1, hown1⟩ : ∃ own, restOf g h1 L' [] = own := ⟨_, rfl⟩
  have N1 : News g L' h1 own1 := fun p hp => by
    subst hown1
    refine letter fun Qg hg => ?_
    obtain ⟨h1, h2, _, h4⟩ := mem_restOf.mp hp
    refine hg ?_
    clear hg
    exact ⟨h1, h2, h4⟩
  dsimp only
  rcases hst : lawState f.heads (fun _ => none) with _ | st
  · rw [hst] at r1
    obtain rfl := r1
    w_strict k_steps
    (with_reducible rename Fr _ _ _ _ => kF)
    refine hR _ _ (hq _ _ _ (fun b o e => kF.keep _ _ (up _ _ e)) ?_)
    unfold LotRes lawRows; rw [hst]
  · rw [hst] at r1
    refine letter fun Qg hg => ?_
    obtain ⟨T, cv, D, nT, rfl, nT0, nD0, eT, C1, R1⟩ := r1
    refine hg ?_
    clear hg
    have nDL : D ≠ L' := fun q => by obtain ⟨oL, hL⟩ := nL0; rw [← q, nD0] at hL; cases hL
    have hT1 := isTup_of eT
    have F₀ := And.intro F2 trivial
    w_strict k_steps
    unfold Held
    with_unfolding_all refine For_H ?_ (by intro _; rfl) hPo
    w_strict k_steps
    unfold Held
    (with_reducible rename Fr _ _ _ _ => kF)
    (with_reducible rename News _ _ _ _ => kN)
    refine enum_H rfl ⟨_, kF.keep _ _ g6, rfl, no, rfl⟩ (TurnsKE.turns ?_)
    rintro fp wr h₁ jj1
    refine letter fun Qg hg => ?_
    obtain ⟨isrc, iwr, iup, ithere, ind⟩ := jj1
    refine hg ?_
    clear hg
    dsimp only at iwr iup
    have gwr : ∀ b ∈ wr, b ≠ L' ∧ g.get? b = none := fun b hb => ⟨(fun e => by obtain ⟨oL, hL⟩ := fr_there kF; rw [← e, (iwr b hb).2] at hL; cases hL), up_none kF.keep (iwr b hb).2⟩
    have hR2 := kN _ (.tail _ (.head _))
    dsimp only at hR2
    have hRw : ∀ b, (∃ o, Heap.get? _ b = some o) → b ∉ wr := fun b hb q => by obtain ⟨o, e⟩ := hb; rw [(iwr b q).2] at e; cases e
    have k1B := rest_kept F₀.1 kF kN (fun p hp => by rw [hown1] at hp; k_ownIn)
    have ntL := ns_notTup F₀.1
    obtain ⟨m0, R, F0, ⟨mm1, mm2, mm3, mm4, mm5⟩, eR0, nRL, gR⟩ : ∃ m R, Fr g L' h₁ m ∧ (m (Str.ofString "fde") = some (.ref a) ∧ m (Str.ofString "state") = some (.ref T) ∧ m (Str.ofString "address") = some (.int f.begin t1) ∧ m (Str.ofString "rows") = some (.ref R) ∧ m (Str.ofString "first") = some (.ref D)) ∧ Heap.get? _ R = some (listOf ([] : List Value).toArray 0) ∧ R ≠ L' ∧ g.get? R = none := ⟨_, _, kF.keeps iup, ⟨rfl, rfl, rfl, rfl, rfl⟩, hR2⟩
    have hRw' := hRw R ⟨_, eR0⟩
    have kDL : ∀ b, b ≠ L' → ∀ o, h1.get? b = some o → Heap.get? _ b = some o := fun b hb o e => k1B b o (fun q => hb (List.mem_singleton.mp q)) e
    have inZ : ∀ b o, h1.get? b = some o → b ≠ L' → b ≠ R → (hideAll h₁ (L' :: R :: wr)).get? b = some o := fun b o e n1 n2 => by
      have e2 := kDL b n1 o e
      refine hideAll_get _ (iup _ _ e2) ?_
      rw [List.mem_cons, not_or, List.mem_cons, not_or]
      exact ⟨n1, n2, hRw b ⟨_, e2⟩⟩
    have uT : UpT h1 (hideAll h₁ (L' :: R :: wr)) := fun b vs n e => inZ b _ e (fun q => ntL vs n (q ▸ e)) (fun q => list_notTup eR0 vs n (q ▸ kDL b (fun q => ntL vs n (q ▸ e)) _ e))
    have hDL : D ≠ L' := nDL
    have uD : ∀ o, h1.get? D = some o → (hideAll h₁ (L' :: R :: wr)).get? D = some o := fun o e => inZ D o e hDL (fun q => by
      refine letter fun Qg hg => ?_
      obtain ⟨o2, kvs2, e2, _, ⟨_, _, _, e3, _⟩, _⟩ := R1
      refine hg ?_
      clear hg
      have := kDL D hDL _ e2
      rw [q, eR0] at this
      cases this
      cases e3)
    have D1 := R1.keepT uD uT
    refine ⟨JLot w g L' a R D wr f.heads f.ops st.2 ⟨f.begin, st, []⟩, ⟨m0, _, _, [], 0, _, F0, ⟨mm1, mm2, mm3, mm4, mm5⟩, rfl, iup _ _ eR0, .nil, ⟨T, cv, D, nT, rfl, uT _ _ _ eT, C1.keepT uT, D1⟩, D1⟩, ?_, ?_, ?_⟩
    · rintro i h h' jj2 _ k ex _
      refine letter fun Qg hg => ?_
      obtain ⟨m, l, sv, rvs, rn, t, F, hm, hgo, eR, A1, S1, D1⟩ := jj2
      refine hg ?_
      clear hg
      have hs := hide_step (Z := L' :: R :: wr) (Z' := L' :: R :: wr) k (fun a ha => List.mem_cons_of_mem _ (List.mem_cons_of_mem _ ha)) (fun a ha => .inl ha)
      exact ⟨m, l, sv, rvs, rn, t, Fr.after F k gwr, hm, hgo, k _ _ hRw' eR, lots_up hs A1, S1.up hs, D1.keeps hs⟩
    · rintro i v h tk KK hi jj3 jj4 hex hnt hK hKr
      refine letter fun Qg hg => ?_
      obtain ⟨Te, t', x, rfl, hx, hTe⟩ := jj3
      obtain ⟨m, l, sv, rvs, rn, ta, F, ⟨m1, m2, m3, m4, m5⟩, hgo, eR, A1, S1, D1⟩ := jj4
      refine hg ?_
      clear hg
      refine letter fun Qg hg => ?_
      obtain ⟨op, hop, aT, b, t2, n2, k2, vs2, rfl, hT, hb, hi3⟩ := g8.get hx
      refine hg ?_
      clear hg
      have hTg := isTup_of hT
      have hbg := isTup_of hb
      have hol6 := F.keep _ _ g6
      refine letter fun Qg hg => ?_
      obtain ⟨own, hown, hoff, N⟩ := led1 eR nRL gR
      refine hg ?_
      clear hg
      clear F₀ kN kF hown1 F0 mm1 mm2 mm3 mm4 mm5
      have F₀ := And.intro F trivial
      refine letter fun Qg hg => ?_
      obtain ⟨T0, cv0, D0, nT0', rfl, eT0, C0, R0⟩ := S1
      refine hg ?_
      clear hg
      have hTs := isTup_of (of_hideAll _ eT0)
      have hTR : T0 ∉ [R] := fun q => list_notTup eR _ _ (List.mem_singleton.mp q ▸ of_hideAll _ eT0)
      w_strict k_steps
      unfold Held
      (with_reducible rename Fr _ _ _ _ => FT)
      (with_reducible rename News _ _ _ _ => NT)
      have kT := rest_kept F₀.1 FT NT (fun p hp => by rw [← hown] at hp; k_ownIn)
      have sub2 : ∀ a ∈ [L', R], a ∈ L' :: R :: wr := fun a ha => by
        rcases List.mem_cons.mp ha with ha | ha
        · rw [ha]; exact .head _
        · rw [List.mem_singleton.mp ha]; exact .tail _ (.head _)
      have hsT := hide_step (Z := L' :: R :: wr) (Z' := L' :: R :: wr) kT sub2 (fun a ha => .inl ha)
      have eRT := (NT (R, _) (by k_mem)).1
      have AT := lots_up hsT A1
      have hfew := AT.length
      have hfew2 := go_few (s := ⟨f.begin, st, []⟩) rfl i hgo
      have eTT := hsT _ _ eT0
      have CT := C0.keeps hsT
      have RT := R0.keeps hsT
      have DT := D1.keeps hsT
      dsimp only at eRT
      obtain ⟨mt, FT2, q1, q2, q3, q4, q5, q6, q7, q8⟩ : ∃ mt, Fr g L' _ mt ∧ mt (Str.ofString "fde") = some (.ref a) ∧ mt (Str.ofString "state") = some (.ref T0) ∧ mt (Str.ofString "address") = some (.int l.addr ta) ∧ mt (Str.ofString "rows") = some (.ref R) ∧ mt (Str.ofString "first") = some (.ref D) ∧ mt (Str.ofString "at") = some (.int i t') ∧ mt (Str.ofString "name") = some (.str op.name t2) ∧ mt (Str.ofString "args") = some (.ref b) := ⟨_, FT, m1, m2, m3, m4, m5, rfl, rfl, rfl⟩
      clear FT NT hTs F₀ F hown hoff N A1 eT0 C0 R0 D1 hsT m1 m2 m3 m4 m5
      refine letter fun Qg hg => ?_
      obtain ⟨ownT, hownT, hoffT, NT⟩ := led1 eRT nRL gR
      refine hg ?_
      clear hg
      have FT := FT2
      clear FT2
      have FT₀ := And.intro FT trivial
      have hTs := isTup_of (of_hideAll _ eTT)
      have newT : ∀ (h9 : Heap) (X : Addr) {vs : List Value} {n : Nat} {xs : Array Value} {k : Nat}, h9.get? X = some (tupOb vs n) → h9.get? R = some (listOf xs k) → X ≠ L' → Heap.get? _ X = none → X ∉ L' :: R :: wr := fun h9 X vs n xs k e1 e2 n1 e3 q => by
        rcases List.mem_cons.mp q with q | q
        · exact n1 q
        · rcases List.mem_cons.mp q with q | q
          · exact list_notTup e2 _ _ (q ▸ e1)
          · obtain ⟨o, e4⟩ := hex X (iwr X q).1
            rw [kT _ _ (fun r => by
              rcases List.mem_cons.mp r with r | r
              · exact n1 r
              · exact hRw' (List.mem_singleton.mp r ▸ q)) e4] at e3
            cases e3
      refine join_cut (Jm := fun s' => JTurn w g L' a R D wr i t' l op st.2 h s s') ?_ ?_
      · by_cases h1 : ∃ a0, op = .adv a0
        · obtain ⟨a0, rfl⟩ := h1
          obtain ⟨u0, rfl⟩ := ints1 hi3
          simp only [Op.name] at q7
          w_strict k_steps
          · refine hKr _ _ ?_
            (repeat k_extra "Behind")
            exact hR _ _ (hq _ _ _ (fun b o e => Fr.keep (by assumption) _ _ (up _ _ e)) (by unfold LotRes lawRows; rw [hst]; dsimp only; rw [lawGo_none (i + 1) ((lawGo_take hop hgo).trans (by rw [show l.turn (.adv a0) = none from LS.move_lt (by assumption)]))]))
          · (try dsimp only)
            unfold Held
            (with_reducible rename Fr _ _ _ _ => kF9)
            (with_reducible rename News _ _ _ _ => kN9)
            (rename (_ ∧ _ ∧ AllLt _ _) => hl9)
            have k9 := rest_kept FT₀.1 kF9 kN9 (fun p hp => by rw [← hownT] at hp; k_ownIn)
            have hs := hide_step (Z := L' :: R :: wr) (Z' := L' :: R :: wr) k9 sub2 (fun a ha => .inl ha)
            have gX := kN9 _ (.head _)
            dsimp only at gX
            have gR9 := (kN9 (R, _) (by k_mem)).1
            rw [List.push_toArray] at gR9
            have hXn := fresh_rest (as := [R]) gX.2.2 gX.2.1 (fun q => list_notTup gR9 _ _ (List.mem_singleton.mp q ▸ gX.1)) (hownT ▸ hl9.2.2)
            exact ⟨_, _, _, _, _, _, _, rfl, kF9, q1, rfl, q4, q5, q6, LS.move_gt (by assumption), gR9, (lots_up hs AT).append (.cons ⟨_, _, _, _, _, rfl, hideAll_get _ gX.1 (newT _ _ gX.1 gR9 gX.2.1 hXn), CT.keeps hs, RT.keeps hs⟩ .nil), DT.keeps hs, kT.trans k9⟩
          · (try dsimp only)
            unfold Held
            (with_reducible rename Fr _ _ _ _ => kF9)
            (with_reducible rename News _ _ _ _ => kN9)
            have k9 := rest_kept FT₀.1 kF9 kN9 (fun p hp => by rw [← hownT] at hp; k_ownIn)
            have hs := hide_step (Z := L' :: R :: wr) (Z' := L' :: R :: wr) k9 sub2 (fun a ha => .inl ha)
            exact ⟨_, _, _, _, _, _, _, rfl, kF9, q1, rfl, q4, q5, q6, LS.move_eq (by assumption) (by assumption), (kN9 (R, _) (by k_mem)).1, lots_up hs AT, DT.keeps hs, kT.trans k9⟩
        · by_cases h2 : ∃ a0, op = .loc a0
          · obtain ⟨a0, rfl⟩ := h2
            obtain ⟨u0, rfl⟩ := ints1 hi3
            simp only [Op.name] at q7
            w_strict k_steps
            · refine hKr _ _ ?_
              (repeat k_extra "Behind")
              exact hR _ _ (hq _ _ _ (fun b o e => Fr.keep (by assumption) _ _ (up _ _ e)) (by unfold LotRes lawRows; rw [hst]; dsimp only; rw [lawGo_none (i + 1) ((lawGo_take hop hgo).trans (by rw [show l.turn (.loc a0) = none from LS.move_lt (by assumption)]))]))
            · (try dsimp only)
              unfold Held
              (with_reducible rename Fr _ _ _ _ => kF9)
              (with_reducible rename News _ _ _ _ => kN9)
              (rename (_ ∧ _ ∧ AllLt _ _) => hl9)
              have k9 := rest_kept FT₀.1 kF9 kN9 (fun p hp => by rw [← hownT] at hp; k_ownIn)
              have hs := hide_step (Z := L' :: R :: wr) (Z' := L' :: R :: wr) k9 sub2 (fun a ha => .inl ha)
              have gX := kN9 _ (.head _)
              dsimp only at gX
              have gR9 := (kN9 (R, _) (by k_mem)).1
              rw [List.push_toArray] at gR9
              have hXn := fresh_rest (as := [R]) gX.2.2 gX.2.1 (fun q => list_notTup gR9 _ _ (List.mem_singleton.mp q ▸ gX.1)) (hownT ▸ hl9.2.2)
              exact ⟨_, _, _, _, _, _, _, rfl, kF9, q1, rfl, q4, q5, q6, LS.move_gt (by assumption), gR9, (lots_up hs AT).append (.cons ⟨_, _, _, _, _, rfl, hideAll_get _ gX.1 (newT _ _ gX.1 gR9 gX.2.1 hXn), CT.keeps hs, RT.keeps hs⟩ .nil), DT.keeps hs, kT.trans k9⟩
            · (try dsimp only)
              unfold Held
              (with_reducible rename Fr _ _ _ _ => kF9)
              (with_reducible rename News _ _ _ _ => kN9)
              have k9 := rest_kept FT₀.1 kF9 kN9 (fun p hp => by rw [← hownT] at hp; k_ownIn)
              have hs := hide_step (Z := L' :: R :: wr) (Z' := L' :: R :: wr) k9 sub2 (fun a ha => .inl ha)
              exact ⟨_, _, _, _, _, _, _, rfl, kF9, q1, rfl, q4, q5, q6, LS.move_eq (by assumption) (by assumption), (kN9 (R, _) (by k_mem)).1, lots_up hs AT, DT.keeps hs, kT.trans k9⟩
          · have ne1 : op.name ≠ Str.ofString "advance_loc" := fun e => h1 (name_adv.mp e)
            have ne2 : op.name ≠ Str.ofString "set_loc" := fun e => h2 (name_loc.mp e)
            have htn := turn_other (l := l) (fun a0 e => h1 ⟨a0, e⟩) (fun a0 e => h2 ⟨a0, e⟩)
            w_strict k_steps
            (try dsimp only)
            unfold Held
            (with_reducible rename Fr _ _ _ _ => kF9)
            (with_reducible rename News _ _ _ _ => kN9)
            have k9 := rest_kept FT₀.1 kF9 kN9 (fun p hp => by rw [← hownT] at hp; k_ownIn)
            have hs := hide_step (Z := L' :: R :: wr) (Z' := L' :: R :: wr) k9 sub2 (fun a ha => .inl ha)
            exact ⟨_, _, _, _, _, _, _, rfl, kF9, q1, q3, q4, q5, q6, htn, (kN9 (R, _) (by k_mem)).1, lots_up hs AT, DT.keeps hs, kT.trans k9⟩
      · rintro s' jj5
        refine letter fun Qg hg => ?_
        obtain ⟨h2, tk2, m2, l', rvs', rn', ta', rfl, F2, q1, q3, q4, q5, q6, htn, eR2, A2, D2, K2⟩ := jj5
        refine hg ?_
        clear hg
        clear newT CT RT DT eTT AT hTs FT₀ FT eRT hownT hoffT NT
        refine letter fun Qg hg => ?_
        obtain ⟨own2, hown2, hoff2, N⟩ := led1 eR2 nRL gR
        refine hg ?_
        clear hg
        have hfew := A2.length
        have hfew2 := turn_few htn (go_few (s := ⟨f.begin, st, []⟩) rfl i hgo)
        have htk : (ov.take (i + 1)).length ≤ 100 := by rw [List.length_take]; omega
        have F₀ := And.intro F2 trivial
        w_strict k_steps
        unfold Held
        (with_reducible rename Fr _ _ _ _ => F3)
        (with_reducible rename News _ _ _ _ => N3)
        have k3 := rest_kept F₀.1 F3 N3 (fun p hp => by rw [← hown2] at hp; k_ownIn)
        have sub2 : ∀ a ∈ [L', R], a ∈ L' :: R :: wr := fun a ha => by
          rcases List.mem_cons.mp ha with ha | ha
          · rw [ha]; exact .head _
          · rw [List.mem_singleton.mp ha]; exact .tail _ (.head _)
        have hs3 := hide_step (Z := L' :: R :: wr) (Z' := L' :: R :: wr) k3 sub2 (fun a ha => .inl ha)
        have A3 := lots_up hs3 A2
        have D3 := D2.keeps hs3
        have eR3 := (N3 (R, _) (by k_mem)).1
        have lc := News.isList N3 (.head _)
        refine state_h (ops := f.heads ++ f.ops.take (i + 1)) (first := st.2) B' F3 X' T' rfl rfl (by k_room) (by units_room) lc ((ops_up F3.keep g7).append ((ops_up F3.keep g8).take (i + 1))) (by rw [List.length_append, List.length_take]; omega) (D3.keeps hide_out) fun v h4 tk4 up4 r4 => ?_
        have F4 := F3.keeps up4
        dsimp only at eR3
        have hwr3 : ∀ b ∈ wr, ∀ o, Heap.get? h b = some o → Heap.get? _ b = some o := fun b hb o e => (K2.trans k3) b o (fun q => by
          rcases List.mem_cons.mp q with q | q
          · exact (gwr b hb).1 q
          · exact hRw' (List.mem_singleton.mp q ▸ hb)) e
        have gone : ∀ b ∈ L' :: R :: wr, ∃ o, Heap.get? _ b = some o := fun b hb => by
          rcases List.mem_cons.mp hb with hb | hb
          · rw [hb]; exact fr_there F3
          · rcases List.mem_cons.mp hb with hb | hb
            · rw [hb]; exact ⟨_, eR3⟩
            · obtain ⟨o, e⟩ := hex b (iwr b hb).1
              exact ⟨o, hwr3 b hb o e⟩
        have nt4 : ∀ a ∈ L' :: R :: wr, ∀ vs n, h4.get? a ≠ some (tupOb vs n) := fun a ha vs n e => by
          rcases List.mem_cons.mp ha with ha | ha
          · rw [ha] at e; exact ns_notTup F4 vs n e
          · rcases List.mem_cons.mp ha with ha | ha
            · rw [ha] at e; exact list_notTup (up4 _ _ eR3) vs n e
            · obtain ⟨o, e2⟩ := hex a (iwr a ha).1
              have e3 := up4 _ _ (hwr3 a ha o e2)
              rw [e] at e3
              cases e3
              exact hnt a ha _ e2 rfl
        clear N3 lc
        refine letter fun Qg hg => ?_
        obtain ⟨own4, hown4, hoff4, N4⟩ := led1 (up4 _ _ eR3) nRL gR
        refine hg ?_
        clear hg
        dsimp only at N4 ⊢
        have F₄ := And.intro F4 trivial
        rcases hst4 : lawState (f.heads ++ f.ops.take (i + 1)) st.2 with _ | st4
        · rw [hst4] at r4
          obtain rfl := r4
          w_strict k_steps
          refine hKr _ _ ?_
          (repeat k_extra "Behind")
          exact hR _ _ (hq _ _ _ (fun b o e => Fr.keep (by assumption) _ _ (up _ _ e)) (by unfold LotRes lawRows; rw [hst]; dsimp only; rw [lawGo_none (i + 1) ((lawGo_take hop hgo).trans (by rw [htn]; dsimp only; rw [hst4]))]))
        · rw [hst4] at r4
          refine letter fun Qg hg => ?_
          obtain ⟨T4, cv4, D4, nT4, rfl, nT40, nD40, eT4, C4, R4⟩ := r4
          refine hg ?_
          clear hg
          w_strict k_steps
          (with_reducible rename Fr _ _ _ _ => kF9)
          (with_reducible rename News _ _ _ _ => kN9)
          have k9 := rest_kept F₄.1 kF9 kN9 (fun p hp => by rw [← hown4] at hp; k_ownIn)
          have uT4 := hide_upT (Z := L' :: R :: wr) (fun b o e hb => k9 b o (fun q => hb (sub2 b q)) e) nt4
          have hs4 := hide_step (Z := L' :: R :: wr) (Z' := L' :: R :: wr) (fun b o hb e => k9 b o hb (up4 _ _ e)) sub2 (fun a ha => .inl ha)
          have hD4 : D4 ∉ L' :: R :: wr := fun q => by obtain ⟨o, e⟩ := gone _ q; rw [nD40] at e; cases e
          refine (hK _ _ ⟨_, { l' with st := st4 }, _, _, _, _, kF9, ⟨q1, rfl, q3, q4, q5⟩, (lawGo_take hop hgo).trans (by rw [htn]; dsimp only; rw [hst4]), (kN9 (R, _) (by k_mem)).1, lots_up hs4 A3, ⟨T4, cv4, D4, nT4, rfl, uT4 _ _ _ eT4, C4.keepT uT4, R4.keepT (fun o e => hideAll_get _ (k9 _ _ (fun q => hD4 (sub2 _ q)) e) hD4) uT4⟩, D3.keeps hs4⟩ (fun b hb o e => ?_)).1
          rcases isrc b hb with r | r
          · rw [List.mem_singleton.mp r] at e ⊢
            rw [hol6] at e
            cases e
            exact kF9.keep _ _ g6
          · exact k9 _ _ (fun q => by
              rcases List.mem_cons.mp q with q | q
              · exact (gwr b r).1 q
              · exact hRw' (List.mem_singleton.mp q ▸ r)) (up4 _ _ (hwr3 b r o e))
    · rintro h h' tk jj6 k
      refine letter fun Qg hg => ?_
      obtain ⟨m, l, sv, rvs, rn, ta, F, ⟨m1, m2, m3, m4, m5⟩, hgo, eR, A1, S1, D1⟩ := jj6
      refine hg ?_
      clear hg
      clear kN kF F₀ hown1
      have F := Fr.after F k gwr
      have eR' := k _ _ hRw' eR
      have hs := hide_step (Z := L' :: R :: wr) (Z' := L' :: R :: wr) k (fun a ha => List.mem_cons_of_mem _ (List.mem_cons_of_mem _ ha)) (fun a ha => .inl ha)
      refine letter fun Qg hg => ?_
      obtain ⟨T0, cv0, D0, nT0', rfl, eT0, C0, R0⟩ := S1
      refine hg ?_
      clear hg
      have eT0' := of_hideAll _ (hs _ _ eT0)
      have C0' := (C0.keeps hs)
      have R0' := (R0.keeps hs)
      have A1' := lots_up hs A1
      rw [hlo] at hgo
      have hfew := A1.length
      have hfew2 := go_few (s := ⟨f.begin, st, []⟩) rfl _ hgo
      rw [List.take_length] at hgo
      refine letter fun Qg hg => ?_
      obtain ⟨own, hown, hoff, N⟩ := led1 eR' nRL gR
      refine hg ?_
      clear hg
      have hTs := isTup_of eT0'
      have hTR : T0 ∉ [R] := fun q => list_notTup eR' _ _ (List.mem_singleton.mp q ▸ eT0')
      have F₀ := And.intro F trivial
      (try dsimp only)
      w_strict k_steps
      (with_reducible rename Fr _ _ _ _ => kF9)
      (with_reducible rename News _ _ _ _ => kN9)
      have k9 := rest_kept F₀.1 kF9 kN9 (fun p hp => by rw [← hown] at hp; k_ownIn)
      have hs9 : Up (hideAll h' (L' :: R :: wr)) _ := fun b o e => k9 b o (fun q => by
        have hb : b ∉ L' :: R :: wr := fun q2 => by rw [hideAll_none _ q2] at e; cases e
        rcases List.mem_cons.mp q with q | q
        · exact hb (q ▸ .head _)
        · exact hb (List.mem_singleton.mp q ▸ .tail _ (.head _))) (of_hideAll _ e)
      have gX := (kN9 _ (.tail _ (.tail _ (.head _)))).1
      refine hR _ _ (hq _ _ _ (fun b o e => kF9.keep _ _ (up _ _ e)) ?_)
      unfold LotRes lawRows
      rw [hst]
      dsimp only
      rw [hgo]
      exact ⟨_, _, _, rfl, up_none up (kN9 _ (.head _)).2.2, (kN9 _ (.head _)).1, (lots_up hs9 A1').append (.cons ⟨_, _, _, _, _, rfl, gX, C0'.keeps hs9, R0'.keeps hs9⟩ .nil)⟩
theorem lines_L5 : True := by
  k_with_none
  (k_with "execs cons" => (k_here; first | ((fail_if_success (fail_if_success k_gentoks)); (refine tok_letter ?_); intro tk) | (with_reducible refine execs_one ?_) | (with_reducible refine execs_cons_L ?_; intro Q9 hQ9)))
  (k_with "Behind" => ((rename (∀ f s', _ → Behind _ f s') => hB9); first | ((with_reducible refine hB9 _ _ ?_); (try dsimp only)) | (clear hB9; k_extra "Behind")))
  (k_with "m k_lt" => (intro hlt9; replace hlt9 := allLt_of hlt9; dsimp only [AllLt] at hlt9; revert hlt9))
  (k_with "m k_ne" => ((refine neN ?_; (try dsimp only); first | (with_reducible assumption) | (with_reducible exact Ne.symm (by assumption)) | omega)))
  (k_with "m k_inst" => (exact inst_base (by with_reducible assumption) (by with_reducible assumption) (by with_reducible assumption)))
  (k_with "m k_room" => (((try simp only [depth_under_make, depth_under_kw, depth_in1, depth_deeper, depth_caller]); (try dsimp only [arT]); omega)))
  (k_with "m k_handed" => (assumption))
  trivial

set_option maxHeartbeats 16000000 in
theorem facts_none {w : World} {loose : List Str} {mean : ExcName → Option Value} {mg mb : Str → Option Value} {A₀ : Around} {dp un : Nat} {gd : Option (List Code)} {env : Env} {outer : List Env} {base h₀ : Heap} {L : Addr} {m : Str → Option Value} {s : Shared} {Q E : Value → Shared → Prop}
    (B : Below A₀ base outer h₀) (F : Fr h₀ L s.heap m) (X : (hd.heap_1 w.params).In h₀) (T : Top topProg loose mean mg mb h₀)
    (hf : env.frame = some L) (hk : env.scope.kind = .function) (hroom : dp + 6 < recursionLimit) (hq : ∀ h' tk', Up s.heap h' → Q .none { s with heap := h', toks := tk' }) :
    wpAny (model PySem.Challenge.rw_on0310_01.row.prog w) (arT dp un gd env outer) (call (.ref 234) [.none]) Q E s := by
  revert X; k_fill; intro X
  have N : News h₀ L s.heap [] := fun p hp => by cases hp
  k_dflt (refine' enter2 (binds := [(Str.ofString "row", .none)]) B F X T N rfl hf hk ?k6 ?k7 ?k8 ?k9 ?kB ?_ ?c2 ?c3 ?c4 ?c5; (case k6 => k_is); (case k7 => k_is); (case k8 => show dp < _; omega); (case k9 => exact BindsTo.of_eq rfl); (case c5 => decide); (case kB => exact locs rfl); (case c2 => exact rfl); (case c3 => exact rfl); (case c4 => exact rfl); k_whole; intro g L' h' tk0 QQ EE hg hk₁ hL' F' N' B' X' T' hR hNx hEx hPo; (try dsimp only); (try k_fold))

  have up : Up s.heap g := fun b o e => hg b o List.not_mem_nil e
  clear hg hk₁
  w_strict k_steps
  (with_reducible rename Fr _ _ _ _ => kF)
  exact hR _ _ (hq _ _ (fun b o e => kF.keep _ _ (up _ _ e)))

set_option maxHeartbeats 16000000 in
theorem facts_some {w : World} {loose : List Str} {mean : ExcName → Option Value} {mg mb : Str → Option Value} {A₀ : Around} {dp un : Nat} {gd : Option (List Code)} {env : Env} {outer : List Env} {base h₀ : Heap} {L : Addr} {m : Str → Option Value} {s : Shared} {Q E : Value → Shared → Prop} {x : Value} {r : Row}
    (B : Below A₀ base outer h₀) (F : Fr h₀ L s.heap m) (X : (hd.heap_1 w.params).In h₀) (T : Top topProg loose mean mg mb h₀)
    (hf : env.frame = some L) (hk : env.scope.kind = .function) (hroom : dp + 6 < recursionLimit) (hx : RowIn w s.heap x r) (hq : ∀ T h' tk', Up s.heap h' → s.heap.get? T = none → LotRow w h' (.ref T) r → Q (.ref T) { s with heap := h', toks := tk' }) :
    wpAny (model PySem.Challenge.rw_on0310_01.row.prog w) (arT dp un gd env outer) (call (.ref 234) [x]) Q E s := by
  revert X; k_fill; intro X
  refine letter fun Qg hg => ?_
  obtain ⟨h1, h2, h3, h4⟩ := hx
  refine hg ?_
  clear hg
  rename_i xa dx d q1 q2 q3 n t cv
  have N : News h₀ L s.heap [] := fun p hp => by cases hp
  k_dflt (refine' enter2 (binds := [(Str.ofString "row", .ref xa)]) B F X T N rfl hf hk ?k6 ?k7 ?k8 ?k9 ?kB ?_ ?c2 ?c3 ?c4 ?c5; (case k6 => k_is); (case k7 => k_is); (case k8 => show dp < _; omega); (case k9 => exact BindsTo.of_eq rfl); (case c5 => decide); (case kB => exact locs rfl); (case c2 => exact rfl); (case c3 => exact rfl); (case c4 => exact rfl); k_whole; intro g L' h' tk0 QQ EE hg hk₁ hL' F' N' B' X' T' hR hNx hEx hPo; (try dsimp only); (try k_fold))

  have up : Up s.heap g := fun b o e => hg b o List.not_mem_nil e
  clear hg hk₁
  replace h1 := up _ _ h1
  replace h2 := up _ _ h2
  have hcvh := h3.handed
  dsimp only [ent] at h2
  w_strict k_steps
  (with_reducible rename Fr _ _ _ _ => kF)
  (with_reducible rename News _ _ _ _ => kN)
  have gT := kN _ (.head _)
  exact hR _ _ (hq _ _ _ (fun b o e => kF.keep _ _ (up _ _ e)) (up_none up gT.2.2) ⟨_, _, _, _, _, rfl, gT.1, (h3.keeps up).keeps kF.keep, (h4.keeps up).keeps kF.keep⟩)
theorem lines_L6 : True := by
  k_with_none
  (k_with "execs cons" => (k_here; first | ((fail_if_success (fail_if_success k_gentoks)); (refine tok_letter ?_); intro tk) | (with_reducible refine execs_one ?_) | (with_reducible refine execs_cons_L ?_; intro Q9 hQ9)))
  (k_with "Behind" => ((rename (∀ f s', _ → Behind _ f s') => hB9); first | ((with_reducible refine hB9 _ _ ?_); (try dsimp only)) | (clear hB9; k_extra "Behind")))
  (k_with "eval Name" => (k_here; k_dflt (refine' nameX_L ?FzL61 ?vzL61 ?_ ?azL61 ?bzL61; (case FzL61 => k_asm); (case azL61 => rfl); (case bzL61 => rfl); (case vzL61 => assumption); k_whole)))
  (k_with "exec For" => (k_here; (with_reducible show wpAny _ _ (exec (Stmt.For _ _ _ _ _) _) _ _ _); refine Held.out ?_))
  (k_with "m k_lt" => (intro hlt9; replace hlt9 := allLt_of hlt9; dsimp only [AllLt] at hlt9; revert hlt9))
  (k_with "m k_ne" => ((refine neN ?_; (try dsimp only); first | (with_reducible assumption) | (with_reducible exact Ne.symm (by assumption)) | omega)))
  (k_with "m k_inst" => (exact inst_base (by with_reducible assumption) (by with_reducible assumption) (by with_reducible assumption)))
  (k_with "m k_room" => (((try simp only [depth_under_make, depth_under_kw, depth_in1, depth_deeper, depth_caller]); (try dsimp only [arT]); omega)))
  (k_with "m k_handed" => (assumption))
  trivial

noncomputable def inRange (f : FDE) (pc : Int) : Bool := decide (f.begin ≤ pc) && decide (pc < f.begin + f.size)
noncomputable def FdeAt (h : Heap) (v : Value) (f : FDE) : Prop := ∃ a, v = .ref a ∧ FdeIn h a f
theorem FdeAt.up {h h' : Heap} {v : Value} {f : FDE} (x : FdeAt h v f) (k : Up h h') : FdeAt h' v f := let ⟨a, e, i⟩ := x; ⟨a, e, i.up k⟩
theorem fdes_up {h h' : Heap} (k : Up h h') {vs : List Value} {l : List FDE} (x : All2 (FdeAt h) vs l) : All2 (FdeAt h') vs l := x.imp fun _ _ r => r.up k
noncomputable def AtRes (fvs : List Value) (fs : List FDE) (v : Value) : Option FDE → Prop
  | none => v = .none
  | some f => ∃ i : Nat, fvs[i]? = some v ∧ fs[i]? = some f
theorem find_at {fs : List FDE} {p : FDE → Bool} {i : Nat} {f : FDE} (hn : ∀ x ∈ fs.take i, p x = false) (hi : fs[i]? = some f) (hp : p f = true) : fs.find? p = some f := by
  have e : fs = fs.take i ++ fs.drop i := (List.take_append_drop _ _).symm
  have hd : fs.drop i = f :: fs.drop (i + 1) := by
    have hlt : i < fs.length := by
      rcases Nat.lt_or_ge i fs.length with h | h
      · exact h
      · rw [List.getElem?_eq_none h] at hi; cases hi
    rw [List.getElem?_eq_getElem hlt] at hi
    cases hi
    exact List.drop_eq_getElem_cons hlt
  rw [e, List.find?_append, List.find?_eq_none.mpr (fun x hx => by rw [hn x hx]; decide), hd, List.find?_cons_of_pos hp]
  rfl
theorem take_snoc {α : Type} {l : List α} {i : Nat} {x : α} (hi : l[i]? = some x) : l.take (i + 1) = l.take i ++ [x] := by rw [List.take_add_one, hi]; rfl
inductive JAt (g : Heap) (L : Addr) (pc : Int) (fs : List FDE) (i : Nat) (h : Heap) : Prop
  | mk (m : Str → Option Value) (t : Tok) : Fr g L h m → (m (Str.ofString "pc") = some (.int pc t)) → (∀ f ∈ fs.take i, inRange f pc = false) → JAt g L pc fs i h
set_option maxHeartbeats 16000000 in
theorem at_h {w : World} {loose : List Str} {mean : ExcName → Option Value} {mg mb : Str → Option Value} {A₀ : Around} {dp un : Nat} {gd : Option (List Code)} {env : Env} {outer : List Env} {base h₀ : Heap} {L : Addr} {m : Str → Option Value} {s : Shared} {Q E : Value → Shared → Prop} {l : Addr} {fvs : List Value} {fs : List FDE} {pc : Int} {tp : Tok}
    (B : Below A₀ base outer h₀) (F : Fr h₀ L s.heap m) (X : (hd.heap_1 w.params).In h₀) (T : Top topProg loose mean mg mb h₀)
    (hf : env.frame = some L) (hk : env.scope.kind = .function) (hroom : dp + 6 < recursionLimit) (hl : s.heap.IsList l fvs.toArray) (hfs : All2 (FdeAt s.heap) fvs fs) (hq : ∀ v h' tk', Up s.heap h' → AtRes fvs fs v (fs.find? fun f => inRange f pc) → Q v { s with heap := h', toks := tk' }) :
    wpAny (model PySem.Challenge.rw_on0310_01.row.prog w) (arT dp un gd env outer) (call (.ref 137) [.ref l, .int pc tp]) Q E s := by
  revert X; k_fill; intro X
  have N : News h₀ L s.heap [] := fun p hp => by cases hp
  k_dflt (refine' enter2 (binds := [(Str.ofString "fdes", .ref l), (Str.ofString "pc", .int pc tp)]) B F X T N rfl hf hk ?k6 ?k7 ?k8 ?k9 ?kB ?_ ?c2 ?c3 ?c4 ?c5; (case k6 => k_is); (case k7 => k_is); (case k8 => show dp < _; omega); (case k9 => exact BindsTo.of_eq rfl); (case c5 => decide); (case kB => exact locs rfl); (case c2 => exact rfl); (case c3 => exact rfl); (case c4 => exact rfl); k_whole; intro g L' h' tk0 QQ EE hg hk₁ hL' F' N' B' X' T' hR hNx hEx hPo; (try dsimp only); (try k_fold))

  have up : Up s.heap g := fun b o e => hg b o List.not_mem_nil e
  clear hg hk₁
  have g1 : g.IsList l fvs.toArray := hl.at fun o e => up _ _ e
  have g2 := fdes_up up hfs
  have hfl := g2.length
  w_strict k_steps
  unfold Held
  with_unfolding_all refine For_H ?_ (by intro _; rfl) hPo
  walk1
  (with_reducible rename Fr _ _ _ _ => kF)
  refine list_H rfl (g1.at fun o e => kF.keep _ _ e) (TurnsK.turns ?_)
  rintro fp wr h₁ jj1
  refine letter fun Qg hg => ?_
  obtain ⟨isrc, iwr, iup, ithere, ind⟩ := jj1
  refine hg ?_
  clear hg
  dsimp only at iwr iup
  have gwr : ∀ b ∈ wr, b ≠ L' ∧ g.get? b = none := fun b hb => ⟨(fun e => by obtain ⟨oL, hL⟩ := fr_there kF; rw [← e, (iwr b hb).2] at hL; cases hL), up_none kF.keep (iwr b hb).2⟩
  refine ⟨JAt g L' pc fs, ⟨_, _, kF.keeps iup, rfl, fun f hf => by cases hf⟩, ?_, ?_, ?_⟩
  · rintro i h h' jj2 k ex
    refine letter fun Qg hg => ?_
    obtain ⟨m, t, F, m1, hn⟩ := jj2
    refine hg ?_
    clear hg
    exact ⟨m, t, Fr.after F k gwr, m1, hn⟩
  · rintro i v h tk KK hi hv jj3 hex hK hKr
    refine letter fun Qg hg => ?_
    obtain ⟨m, t, F, m1, hn⟩ := jj3
    refine hg ?_
    clear hg
    refine letter fun Qg hg => ?_
    obtain ⟨f, hfi, a, rfl, hfd⟩ := g2.get hv
    refine hg ?_
    clear hg
    refine letter fun Qg hg => ?_
    obtain ⟨da, c, dc, hl2, ol, q1, q2, q3, q4, p1, p2, p3, p4, n, m', nh, no, t1, t2, v1, v2, v3, hv2, ov, d1, d2, d3, d4, d5, d6, d7, d8⟩ := id hfd
    refine hg ?_
    clear hg
    dsimp only [ent] at d2
    clear kF N'
    have N : News g L' h [] := fun p hp => by cases hp
    have fpk : ∀ h9 : Heap, Kept [L'] h h9 → ∀ b ∈ fp, ∀ o, h.get? b = some o → h9.get? b = some o := fun h9 k b hb o e => k b o (fun q => by
      rw [List.mem_singleton.mp q] at hb
      rcases isrc _ hb with r | r
      · obtain ⟨o2, e2, _⟩ := g1
        rw [← List.mem_singleton.mp r, Heap.get?_none_of_le F.above] at e2; cases e2
      · exact (gwr _ r).1 rfl) e
    have F₀ := And.intro F trivial
    obtain ⟨own, hown⟩ : ∃ own, restOf g h L' [] = own := ⟨_, rfl⟩
    have N : News g L' h own := fun p hp => by
      subst hown
      refine letter fun Qg hg => ?_
      obtain ⟨h1, h2, _, h4⟩ := mem_restOf.mp hp
      refine hg ?_
      clear hg
      exact ⟨h1, h2, h4⟩
    w_strict k_steps
    · (try dsimp only)
      (with_reducible rename Fr _ _ _ _ => kF9)
      refine hKr _ _ ?_
      (repeat k_extra "Behind")
      refine hR _ _ (hq _ _ _ (fun b o e => kF9.keep _ _ (up _ _ e)) ?_)
      rw [find_at hn hfi (by simp only [inRange, Bool.and_eq_true, decide_eq_true_eq]; exact ⟨by assumption, by assumption⟩)]
      exact ⟨i, hv, hfi⟩
    · (with_reducible rename Fr _ _ _ _ => kF9)
      (with_reducible rename News _ _ _ _ => kN9)
      have k9 := rest_kept F₀.1 kF9 kN9 (fun p hp => by rw [hown] at hp; k_ownIn)
      refine (hK _ _ ⟨_, t, kF9, m1, fun x hx => ?_⟩ (fpk _ k9)).1
      rw [take_snoc hfi] at hx
      rcases List.mem_append.mp hx with hx | hx
      · exact hn x hx
      · rw [List.mem_singleton.mp hx]
        simp only [inRange, Bool.and_eq_false_iff, decide_eq_false_iff_not]
        first | exact .inr (by assumption) | exact .inl (by assumption)
    · (with_reducible rename Fr _ _ _ _ => kF9)
      (with_reducible rename News _ _ _ _ => kN9)
      have k9 := rest_kept F₀.1 kF9 kN9 (fun p hp => by rw [hown] at hp; k_ownIn)
      refine (hK _ _ ⟨_, t, kF9, m1, fun x hx => ?_⟩ (fpk _ k9)).1
      rw [take_snoc hfi] at hx
      rcases List.mem_append.mp hx with hx | hx
      · exact hn x hx
      · rw [List.mem_singleton.mp hx]
        simp only [inRange, Bool.and_eq_false_iff, decide_eq_false_iff_not]
        first | exact .inr (by assumption) | exact .inl (by assumption)
  · rintro h h' tk jj4 k
    refine letter fun Qg hg => ?_
    obtain ⟨m, t, F, m1, hn⟩ := jj4
    refine hg ?_
    clear hg
    clear kF
    have F := Fr.after F k gwr
    rw [hfl, List.take_length] at hn
    (try dsimp only)
    w_strict k_steps
    (with_reducible rename Fr _ _ _ _ => kF)
    refine hR _ _ (hq _ _ _ (fun b o e => kF.keep _ _ (up _ _ e)) ?_)
    rw [List.find?_eq_none.mpr (fun x hx => by rw [hn x hx]; decide)]
    rfl
theorem lines_L7 : True := by
  k_with_none
  (k_with "execs cons" => (k_here; first | ((fail_if_success (fail_if_success k_gentoks)); (refine tok_letter ?_); intro tk) | (with_reducible refine execs_one ?_) | (with_reducible refine execs_cons_L ?_; intro Q9 hQ9)))
  (k_with "Behind" => ((rename (∀ f s', _ → Behind _ f s') => hB9); first | ((with_reducible refine hB9 _ _ ?_); (try dsimp only)) | (clear hB9; k_extra "Behind")))
  (k_with "compareOp Eq ref ref" => (k_here; (with_reducible show wpAny _ _ (compareOp CmpOp.Eq (Value.ref _) (Value.ref _)) _ _ _); k_dflt (first | refine eq_nilT (by is_list) (by is_list) (by units_room) ?_ | refine eq_nilF (vs := _) (v := _) (by is_list) (by is_list) (by units_room) ?_)))
  (k_with "call builtin:list.pop" => (k_here; (with_reducible show wpAny _ _ (call (Value.builtin _) [Value.ref _]) _ _ _); k_dflt (refine' lpop_K ?FzL72 ?NzL72 ?UzL72 ?zzL72 ?_; (case FzL72 => k_asm); (case NzL72 => k_asm); (case UzL72 => k_upd); (case zzL72 => assumption)); (intro _ _ N'; (try dsimp only [List.nil_append, List.cons_append] at N'))))
  (k_with "eval Name" => (k_here; k_dflt (refine' nameX_L ?FzL73 ?vzL73 ?_ ?azL73 ?bzL73; (case FzL73 => k_asm); (case azL73 => rfl); (case bzL73 => rfl); (case vzL73 => assumption); k_whole)))
  (k_with "call ref" => (k_here; (with_reducible show wpAny _ _ (call (Value.ref 137) [Value.ref _, Value.int _ _]) _ _ _); refine Held.out ?_))
  (k_with "call ref" => (k_here; (with_reducible show wpAny _ _ (call (Value.ref 130) [Value.ref _]) _ _ _); refine Held.out ?_))
  (k_with "exec For Name Call cons nil" => (k_here; (with_reducible show wpAny _ _ (exec (Stmt.For _ _ _ _ _) _) _ _ _); refine Held.out ?_))
  (k_with "m k_lt" => (intro hlt9; replace hlt9 := allLt_of hlt9; dsimp only [AllLt] at hlt9; revert hlt9))
  (k_with "m k_ne" => ((refine neN ?_; (try dsimp only); first | (with_reducible assumption) | (with_reducible exact Ne.symm (by assumption)) | omega)))
  (k_with "m k_inst" => (exact inst_base (by with_reducible assumption) (by with_reducible assumption) (by with_reducible assumption)))
  (k_with "m k_inst" => (exact inst_rest (by k_asm) (by k_asm) (by assumption) (by assumption) (by assumption) (by assumption) (by assumption) (by intro p hp; k_ownIn)))
  (k_with "m k_room" => (((try simp only [depth_under_make, depth_under_kw, depth_in1, depth_deeper, depth_caller]); (try dsimp only [arT]); omega)))
  (k_with "m units_room" => (((try simp only [units_in1, units_deeper, Around.mark_units, units_caller]); (try dsimp only [arT]); (have hcL9 := cLine_is); (try simp only [cLine] at *); omega)))
  (k_with "m k_handed" => (assumption))
  trivial

noncomputable def RowRes (w : World) (h : Heap) (v : Value) : Option Row → Prop
  | none => v = .none
  | some r => RowIn w h v r
noncomputable def foundOf (pc : Int) (rows : List Row) : Option Row := rows.foldl (fun f r => if r.addr ≤ pc then some r else f) none
theorem found_snoc {pc : Int} {rows : List Row} {i : Nat} {r : Row} (hi : rows[i]? = some r) : foundOf pc (rows.take (i + 1)) = if r.addr ≤ pc then some r else foundOf pc (rows.take i) := by
  rw [take_snoc hi]; simp [foundOf, List.foldl_append]
inductive JFound (w : World) (g hB : Heap) (L : Addr) (pc : Int) (rows : List Row) (i : Nat) (h : Heap) : Prop
  | mk (m : Str → Option Value) (t : Tok) (v : Value) : Fr g L h m → (m (Str.ofString "pc") = some (.int pc t)) → (m (Str.ofString "found") = some v) → RowRes w hB v (foundOf pc (rows.take i)) → Kept [L] hB h → JFound w g hB L pc rows i h
set_option maxHeartbeats 16000000 in
theorem row_h {w : World} {loose : List Str} {mean : ExcName → Option Value} {mg mb : Str → Option Value} {A₀ : Around} {dp un : Nat} {gd : Option (List Code)} {env : Env} {outer : List Env} {base h₀ : Heap} {L : Addr} {m : Str → Option Value} {s : Shared} {Q E : Value → Shared → Prop} {l : Addr} {fvs : List Value} {fs : List FDE} {pc : Int} {tp : Tok}
    (B : Below A₀ base outer h₀) (F : Fr h₀ L s.heap m) (X : (hd.heap_1 w.params).In h₀) (T : Top topProg loose mean mg mb h₀)
    (hf : env.frame = some L) (hk : env.scope.kind = .function) (hroom : dp + 30 < recursionLimit) (hun : un + 300 < cLine) (hl : s.heap.IsList l fvs.toArray) (hfs : All2 (FdeAt s.heap) fvs fs) (hok : ∀ f ∈ fs, (∀ op ∈ f.heads ++ f.ops, op.ok) ∧ f.heads.length ≤ 100 ∧ f.ops.length ≤ 100)
    (hq : ∀ v h' tk' o, (match fs.find? fun f => inRange f pc with | none => o = none | some f => ∃ rows, f.rows = some rows ∧ o = foundOf pc rows) → Up s.heap h' → RowRes w h' v o → Q v { s with heap := h', toks := tk' })
    (hE : ∀ h' tk' e f, (fs.find? fun f => inRange f pc) = some f → f.rows = none → FaultOut [] (env :: outer) s.heap e h' → E (.ref e) { s with heap := h', toks := tk' }) :
    wpAny (model PySem.Challenge.rw_on0310_01.row.prog w) (arT dp un gd env outer) (call (.ref 144) [.ref l, .int pc tp]) Q E s := by
  revert X; k_fill; intro X
  have N : News h₀ L s.heap [] := fun p hp => by cases hp
  k_dflt (refine' enter2 (binds := [(Str.ofString "fdes", .ref l), (Str.ofString "pc", .int pc tp)]) B F X T N rfl hf hk ?k6 ?k7 ?k8 ?k9 ?kB ?_ ?c2 ?c3 ?c4 ?c5; (case k6 => k_is); (case k7 => k_is); (case k8 => show dp < _; omega); (case k9 => exact BindsTo.of_eq rfl); (case c5 => decide); (case kB => exact locs rfl); (case c2 => exact rfl); (case c3 => exact rfl); (case c4 => exact rfl); k_whole; intro g L' h' tk0 QQ EE hg hk₁ hL' F' N' B' X' T' hR hNx hEx hPo; (try dsimp only); (try k_fold))

  have up : Up s.heap g := fun b o e => hg b o List.not_mem_nil e
  clear hg hk₁
  have g1 : g.IsList l fvs.toArray := hl.at fun o e => up _ _ e
  have g2 := fdes_up up hfs
  w_strict k_steps
  unfold Held
  (with_reducible rename Fr _ _ _ _ => F1)
  refine at_h B' F1 X' T' rfl rfl (by k_room) (g1.at fun o e => F1.keep _ _ e) (fdes_up F1.keep g2) fun v h1 tk1 up1 r1 => ?_
  have F2 := F1.keeps up1
  clear F1 N'
  have N : News g L' h1 [] := fun p hp => by cases hp
  dsimp only
  rcases hfd : (fs.find? fun f => inRange f pc) with _ | f
  · rw [hfd] at r1
    obtain rfl := r1
    w_strict k_steps
    (with_reducible rename Fr _ _ _ _ => kF)
    refine hR _ _ (hq _ _ _ none (by rw [hfd]) (fun b o e => kF.keep _ _ (up _ _ e)) rfl)
  · rw [hfd] at r1
    obtain ⟨ix, hvx, hfx⟩ := r1
    refine letter fun Qg hg => ?_
    obtain ⟨f', hf', a, rfl, hfa⟩ := g2.get hvx
    refine hg ?_
    clear hg
    rw [hfx] at hf'
    cases hf'
    w_strict k_steps
    unfold Held
    with_unfolding_all refine For_H ?_ (by intro _; rfl) hPo
    w_strict k_steps
    unfold Held
    (with_reducible rename Fr _ _ _ _ => F3)
    refine rows_of_h B' F3 X' T' rfl rfl (by k_room) (by units_room) (hfa.up F3.keep) (hok f (List.mem_of_find?_eq_some hfd)).1 (hok f (List.mem_of_find?_eq_some hfd)).2 ?_ ?_
    · intro rows r vs n h4 tk4 hrows up4 nr er A4
      have F4 := F3.keeps up4
      dsimp only
      obtain ⟨m0, F0, mp, mf⟩ : ∃ m, Fr g L' h4 m ∧ m (Str.ofString "pc") = some (.int pc tp) ∧ m (Str.ofString "found") = some .none := ⟨_, F4, rfl, rfl⟩
      refine list_H rfl ⟨_, er, rfl, n, rfl⟩ (TurnsK.turns ?_)
      rintro fp wr h₁ jj1
      refine letter fun Qg hg => ?_
      obtain ⟨isrc, iwr, iup, ithere, ind⟩ := jj1
      refine hg ?_
      clear hg
      dsimp only at iwr iup
      have hrL : r ≠ L' := fun q => by obtain ⟨o, e⟩ := fr_there F3; rw [q] at nr; rw [nr] at e; cases e
      have gwr : ∀ b ∈ wr, b ≠ L' ∧ g.get? b = none := fun b hb => ⟨(fun e => by obtain ⟨oL, hL⟩ := fr_there F4; rw [← e, (iwr b hb).2] at hL; cases hL), up_none F4.keep (iwr b hb).2⟩
      refine ⟨JFound w g h4 L' pc rows, ⟨m0, tp, .none, F0.keeps iup, mp, mf, rfl, fun b o _ e => iup _ _ e⟩, ?_, ?_, ?_⟩
      · rintro i h h' jj2 k ex
        refine letter fun Qg hg => ?_
        obtain ⟨m, t, v, F, m1, m2, hr, K⟩ := jj2
        refine hg ?_
        clear hg
        exact ⟨m, t, v, Fr.after F k gwr, m1, m2, hr, fun b o hb e => k _ _ (fun q => by rw [(iwr b q).2] at e; cases e) (K b o hb e)⟩
      · rintro i v h tk KK hi hv jj3 hex hK hKr
        refine letter fun Qg hg => ?_
        obtain ⟨m, t, v0, F, m1, m2, hr, K⟩ := jj3
        refine hg ?_
        clear hg
        obtain ⟨rw0, hri, hrow⟩ := A4.get hv
        have hrow' := hrow.kept F0 mp K
        refine letter fun Qg hg => ?_
        obtain ⟨d1, d2, d3, d4⟩ := hrow'
        refine hg ?_
        clear hg
        have dne := row_ne_ns d2 F m1
        dsimp only [ent] at d2
        clear N
        have fpk : ∀ h9 : Heap, Kept [L'] h h9 → ∀ b ∈ fp, ∀ o, h.get? b = some o → h9.get? b = some o := fun h9 k b hb o e => k b o (fun q => by
          rw [List.mem_singleton.mp q] at hb
          rcases isrc _ hb with r | r
          · exact hrL (List.mem_singleton.mp r).symm
          · exact (gwr _ r).1 rfl) e
        have F₀ := And.intro F trivial
        obtain ⟨own, hown⟩ : ∃ own, restOf g h L' [] = own := ⟨_, rfl⟩
        have N : News g L' h own := fun p hp => by
          subst hown
          refine letter fun Qg hg => ?_
          obtain ⟨h1, h2, _, h4⟩ := mem_restOf.mp hp
          refine hg ?_
          clear hg
          exact ⟨h1, h2, h4⟩
        w_strict k_steps
        · (with_reducible rename Fr _ _ _ _ => kF9)
          (with_reducible rename News _ _ _ _ => kN9)
          have k9 := rest_kept F₀.1 kF9 kN9 (fun p hp => by rw [hown] at hp; k_ownIn)
          exact (hK _ _ ⟨_, t, _, kF9, m1, rfl, by rw [found_snoc hri, if_pos (by assumption)]; exact hrow, K.trans k9⟩ (fpk _ k9)).1
        · (with_reducible rename Fr _ _ _ _ => kF9)
          (with_reducible rename News _ _ _ _ => kN9)
          have k9 := rest_kept F₀.1 kF9 kN9 (fun p hp => by rw [hown] at hp; k_ownIn)
          exact (hK _ _ ⟨_, t, v0, kF9, m1, m2, by rw [found_snoc hri, if_neg (by assumption)]; exact hr, K.trans k9⟩ (fpk _ k9)).1
      · rintro h h' tk jj4 k
        refine letter fun Qg hg => ?_
        obtain ⟨m, t, v, F, m1, m2, hr, K⟩ := jj4
        refine hg ?_
        clear hg
        have F := Fr.after F k gwr
        have K' : Kept [L'] h4 h' := fun b o hb e => k _ _ (fun q => by rw [(iwr b q).2] at e; cases e) (K b o hb e)
        rw [A4.length, List.take_length] at hr
        clear N
        have F₀ := And.intro F trivial
        obtain ⟨own, hown⟩ : ∃ own, restOf g h' L' [] = own := ⟨_, rfl⟩
        have N : News g L' h' own := fun p hp => by
          subst hown
          refine letter fun Qg hg => ?_
          obtain ⟨h1, h2, _, h4⟩ := mem_restOf.mp hp
          refine hg ?_
          clear hg
          exact ⟨h1, h2, h4⟩
        (try dsimp only)
        w_strict k_steps
        (with_reducible rename Fr _ _ _ _ => kF)
        (with_reducible rename News _ _ _ _ => kN)
        have k9 := rest_kept F₀.1 kF kN (fun p hp => by rw [hown] at hp; k_ownIn)
        refine hR _ _ (hq _ _ _ (foundOf pc rows) (by rw [hfd]; exact ⟨rows, hrows, rfl⟩) (fun b o e => kF.keep _ _ (up _ _ e)) ?_)
        revert hr
        cases foundOf pc rows with
        | none => exact id
        | some r9 => exact fun q => RowIn.kept q F0 mp (K'.trans k9)
    · intro h4 tk4 e hrows hF
      refine hEx _ _ ?_
      refine leave_faultAt B' (fr_off F3) (fault_base F3 (fun b hb => by cases hb) hF) fun h9 R9 => ?_
      exact hE _ _ _ f hfd hrows (R9.mono fun b o e _ => ⟨up _ _ e, List.not_mem_nil⟩)
theorem lines_L8 : True := by
  k_with_none
  (k_with "execs cons" => (k_here; first | ((fail_if_success (fail_if_success k_gentoks)); (refine tok_letter ?_); intro tk) | (with_reducible refine execs_one ?_) | (with_reducible refine execs_cons_L ?_; intro Q9 hQ9)))
  (k_with "Behind" => ((rename (∀ f s', _ → Behind _ f s') => hB9); first | ((with_reducible refine hB9 _ _ ?_); (try dsimp only)) | (clear hB9; k_extra "Behind")))
  (k_with "compareOp Eq ref ref" => (k_here; (with_reducible show wpAny _ _ (compareOp CmpOp.Eq (Value.ref _) (Value.ref _)) _ _ _); k_dflt (first | refine eq_nilT (by is_list) (by is_list) (by units_room) ?_ | refine eq_nilF (vs := _) (v := _) (by is_list) (by is_list) (by units_room) ?_)))
  (k_with "call builtin:list.pop" => (k_here; (with_reducible show wpAny _ _ (call (Value.builtin _) [Value.ref _]) _ _ _); k_dflt (refine' lpop_K ?FzL82 ?NzL82 ?UzL82 ?zzL82 ?_; (case FzL82 => k_asm); (case NzL82 => k_asm); (case UzL82 => k_upd); (case zzL82 => assumption)); (intro _ _ N'; (try dsimp only [List.nil_append, List.cons_append] at N'))))
  (k_with "subscriptTail" => (k_here; (with_reducible show wpAny _ _ (subscriptTail _ _ (Value.ref _) (Value.int 0 _)) _ _ _); k_dflt (refine' tup_item0 ?tzL83 ?_ (by with_unfolding_all rfl) (by intro _; with_unfolding_all rfl); (case tzL83 => ktr_rel); k_whole)))
  (k_with "subscriptTail" => (k_here; (with_reducible show wpAny _ _ (subscriptTail _ _ (Value.ref _) (Value.int 1 _)) _ _ _); k_dflt (refine' tup_item1 ?tzL84 ?_ (by with_unfolding_all rfl) (by intro _; with_unfolding_all rfl); (case tzL84 => ktr_rel); k_whole)))
  (k_with "compareOp Eq str str" => (k_here; (with_reducible refine str_eqF (by assumption) ?_)))
  (k_with "assign Tuple" => (k_here; (with_reducible show wpAny _ _ (assign (PySem.Expr.Tuple [PySem.Expr.Name _ _, PySem.Expr.Name _ _] _ _) _ (Value.ref _)) _ _ _); k_dflt (refine' pair_L ?FzL86 ?NzL86 ?tzL86 ?hzL86 ?_ ?azL86 ?bzL86 ?czL86; (case FzL86 => k_asm); (case NzL86 => k_asm); (case tzL86 => ktr_rel); (case hzL86 => exact rfl); (case azL86 => exact rfl); (case bzL86 => exact rfl); (case czL86 => exact rfl); k_whole); intro _ _ _ _; (try k_sweep)))
  (k_with "eval Name" => (k_here; k_dflt (refine' nameX_L ?FzL87 ?vzL87 ?_ ?azL87 ?bzL87; (case FzL87 => k_asm); (case azL87 => rfl); (case bzL87 => rfl); (case vzL87 => assumption); k_whole)))
  (k_with "subscriptTail" => (k_here; (with_reducible show wpAny _ _ (subscriptTail _ _ (Value.ref _) (Value.int (-1) _)) _ _ _); k_dflt (refine' last_item ?lzL88 ?_ (by with_unfolding_all rfl) (by intro _; with_unfolding_all rfl); (case lzL88 => is_list); k_whole)))
  (k_with "exec For" => (k_here; (with_reducible show wpAny _ _ (exec (Stmt.For _ _ _ _ _) _) _ _ _); refine Held.out ?_))
  (k_with "exec For Tuple Call cons nil" => (k_here; (with_reducible show wpAny _ _ (exec (Stmt.For _ _ _ _ _) _) _ _ _); refine Held.out ?_))
  (k_with "exec For Name Call cons nil" => (k_here; (with_reducible show wpAny _ _ (exec (Stmt.For _ _ _ _ _) _) _ _ _); refine Held.out ?_))
  (k_with "eval ListComp" => (k_here; (with_reducible show wpAny _ _ (eval (PySem.Expr.ListComp _ _ _ _) _) _ _ _); refine Held.out ?_))
  (k_with "call type:zip" => (k_here; (with_reducible show wpAny _ _ (call (Value.type _) [Value.ref _, Value.ref _]) _ _ _); refine Held.out ?_))
  (k_with "m k_lt" => (intro hlt9; replace hlt9 := allLt_of hlt9; dsimp only [AllLt] at hlt9; revert hlt9))
  (k_with "m k_ne" => ((refine neN ?_; (try dsimp only); first | (with_reducible assumption) | (with_reducible exact Ne.symm (by assumption)) | omega)))
  (k_with "m k_inst" => (exact inst_base (by with_reducible assumption) (by with_reducible assumption) (by with_reducible assumption)))
  (k_with "m k_room" => (((try simp only [depth_under_make, depth_under_kw, depth_in1, depth_deeper, depth_caller]); (try dsimp only [arT]); omega)))
  (k_with "m units_room" => (((try simp only [units_in1, units_deeper, Around.mark_units, units_caller]); (try dsimp only [arT]); (have hcL9 := cLine_is); (try simp only [cLine] at *); omega)))
  (k_with "m ktr_rel" => (first | exact Fr.tup (by assumption) (by assumption) | exact tup2 (by assumption) (by assumption) (by assumption) | exact tup3 (by assumption) (by assumption) (by assumption) (by assumption) | exact News.isTup (by k_asm) (by k_mem)))
  (k_with "m ktr_rel" => (exact tup_rest (by k_asm) (by k_asm) (by assumption) (by assumption) (by assumption) (by intro p hp; k_ownIn)))
  (k_with "m ktr_rel" => (exact tup_restA (by k_asm) (by k_asm) (by assumption) (by assumption) (by assumption) (by assumption) (by intro p hp; k_ownIn)))
  (k_with "m ktr_rel" => (assumption))
  (k_with "m k_handed" => (assumption))
  trivial

/-- what stands in the list of lots -/
noncomputable def LotVal (w : World) (h : Heap) (v : Value) : Option (List Row) → Prop
  | none => v = .none
  | some l => ∃ R vs n, v = .ref R ∧ h.get? R = some (listOf (List.toArray vs) n) ∧ All2 (LotRow w h) vs l
theorem LotVal.up {w : World} {h h' : Heap} {v : Value} {o : Option (List Row)} (x : LotVal w h v o) (k : Up h h') : LotVal w h' v o := by
  cases o with
  | none => exact x
  | some l => obtain ⟨R, vs, n, e, h1, h2⟩ := x; exact ⟨R, vs, n, e, k _ _ h1, lots_up k h2⟩
noncomputable def DueRes (w : World) (h : Heap) (v : Value) (pc : Int) : Option FDE → Prop
  | none => v = .none
  | some f => match lawRows f with
    | none => ∃ t, v = .str (Str.ofString "fault") t
    | some rows => ∃ r, (rows.filter fun r => decide (r.addr ≤ pc)).getLast? = some r ∧ LotRow w h v r
theorem LotRow.kept {w : World} {g h h' : Heap} {L : Addr} {m : Str → Option Value} {v pv : Value} {x : Str} {r : Row} (y : LotRow w h v r) (F : Fr g L h m) (hm : m x = some pv) (k : Kept [L] h h') : LotRow w h' v r := by
  refine letter fun Qg hg => ?_
  obtain ⟨T, t, cv, D, n, e, h1, h2, h3⟩ := y
  refine hg ?_
  clear hg
  have nt := ns_notTup F
  have kk : ∀ b o, b ≠ L → h.get? b = some o → h'.get? b = some o := fun b o n e => k b o (fun q => n (List.mem_singleton.mp q)) e
  have uT : UpT h h' := fun b vs n e => kk b _ (fun q => nt vs n (q ▸ e)) e
  exact ⟨T, t, cv, D, n, e, uT _ _ _ h1, h2.keepT uT, h3.keepT (fun o e => kk _ _ (dict_ne_ns h3 F hm) e) uT⟩
inductive JDue (g : Heap) (L ce : Addr) (oc : Obj) (l2 : Addr) (pc : Int) (fs : List FDE) (i : Nat) (h : Heap) : Prop
  | mk (m : Str → Option Value) : Fr g L h m → (m (Str.ofString "lots") = some (.ref l2)) → (h.get? ce = some oc) → (∀ f ∈ fs.take i, inRange f pc = false) → JDue g L ce oc l2 pc fs i h
set_option maxHeartbeats 16000000 in
theorem due_h {w : World} {loose : List Str} {mean : ExcName → Option Value} {mg mb : Str → Option Value} {A₀ : Around} {dp un : Nat} {gd : Option (List Code)} {env : Env} {outer : List Env} {base h₀ : Heap} {L : Addr} {m : Str → Option Value} {s : Shared} {Q E : Value → Shared → Prop} {l l2 : Addr} {fvs lvs : List Value} {fs : List FDE} {pc : Int} {tp : Tok}
    (B : Below A₀ base outer h₀) (F : Fr h₀ L s.heap m) (X : (hd.heap_1 w.params).In h₀) (T : Top topProg loose mean mg mb h₀)
    (hf : env.frame = some L) (hk : env.scope.kind = .function) (hroom : dp + 12 < recursionLimit) (hun : un + 300 < cLine) (hl : s.heap.IsList l fvs.toArray) (hfs : All2 (FdeAt s.heap) fvs fs) (hl2 : s.heap.IsList l2 lvs.toArray) (hlots : All2 (LotVal w s.heap) lvs (fs.map lawRows))
    (hhead : ∀ f ∈ fs, ∀ rows, lawRows f = some rows → rows.length ≤ 200 ∧ ∃ r rs, rows = r :: rs ∧ r.addr = f.begin)
    (hq : ∀ v h' tk', Up s.heap h' → DueRes w h' v pc (fs.find? fun f => inRange f pc) → Q v { s with heap := h', toks := tk' }) :
    wpAny (model PySem.Challenge.rw_on0310_01.row.prog w) (arT dp un gd env outer) (call (.ref 246) [.ref l, .ref l2, .int pc tp]) Q E s := by
  revert X; k_fill; intro X
  have N : News h₀ L s.heap [] := fun p hp => by cases hp
  k_dflt (refine' enterC2 (binds := [(Str.ofString "fdes", .ref l), (Str.ofString "lots", .ref l2), (Str.ofString "pc", .int pc tp)]) B F X T N rfl hf hk ?k6 ?k7 ?k8 ?k9 ?kB ?kD ?_ ?c2 ?c3 ?c4; (case k6 => k_is); (case k7 => k_is); (case k8 => show dp < _; omega); (case k9 => exact BindsTo.of_eq rfl); (case kB => exact rfl); (case kD => decide +kernel); (case c2 => exact rfl); (case c3 => exact rfl); (case c4 => exact rfl); k_whole; intro g L' h' tk0 cells' QQ EE hg hk₁ hL' F' N' Y' B' X' T' l1 hR hNx hEx hPo; (try k_lt l1); k_cells Y'; (try simp only [List.cons_append, List.nil_append] at N'); (try dsimp only); (try k_fold))

  have up : Up s.heap g := fun b o e => hg b o List.not_mem_nil e
  clear hg hk₁
  have g1 : g.IsList l fvs.toArray := hl.at fun o e => up _ _ e
  have g2 := fdes_up up hfs
  have g3 : g.IsList l2 lvs.toArray := hl2.at fun o e => up _ _ e
  have g4 : All2 (LotVal w g) lvs (fs.map lawRows) := hlots.imp fun _ _ r => r.up up
  have hfl := g2.length
  have hll := g4.length
  rw [List.length_map] at hll
  (with_reducible rename Fr _ _ _ _ => FA)
  obtain ⟨oc, hoc, dC⟩ : ∃ oc, News g L' h' [(L' + 1, oc)] ∧ oc.data = Data.cell (some (.int pc tp)) := ⟨_, N', by assumption⟩
  clear N'
  w_strict k_steps
  unfold Held
  with_unfolding_all refine For_H ?_ (by intro _; rfl) hPo
  w_strict k_steps
  unfold Held
  (with_reducible rename Fr _ _ _ _ => kF)
  (with_reducible rename News _ _ _ _ => kN)
  have eC0 := (kN _ (.head _)).1
  have gC0 := (kN _ (.head _)).2
  dsimp only at eC0 gC0
  refine zip_H rfl (g1.at fun o e => kF.keep _ _ e) (g3.at fun o e => kF.keep _ _ e) (TurnsK.turns ?_)
  rintro fp wr h₁ jj1
  refine letter fun Qg hg => ?_
  obtain ⟨isrc, iwr, iup, ithere, ind⟩ := jj1
  refine hg ?_
  clear hg
  dsimp only at iwr iup
  have gwr : ∀ b ∈ wr, b ≠ L' ∧ g.get? b = none := fun b hb => ⟨(fun e => by obtain ⟨oL, hL⟩ := fr_there kF; rw [← e, (iwr b hb).2] at hL; cases hL), up_none kF.keep (iwr b hb).2⟩
  have hCw : (L' + 1) ∉ wr := fun q => by rw [(iwr _ q).2] at eC0; cases eC0
  have gfp : ∀ b ∈ fp, b ≠ L' ∧ (b = L' + 1 → False) := fun b hb => by
    rcases isrc b hb with r | r
    · have hgb : ∃ o, g.get? b = some o := by
        rcases List.mem_cons.mp r with r | r
        · obtain ⟨o, e, _⟩ := g1; exact ⟨o, r ▸ e⟩
        · obtain ⟨o, e, _⟩ := g3; exact ⟨o, List.mem_singleton.mp r ▸ e⟩
      obtain ⟨o, e⟩ := hgb
      exact ⟨fun q => (by rw [q, Heap.get?_none_of_le kF.above] at e; cases e), fun q => (by rw [q, gC0.2] at e; cases e)⟩
    · exact ⟨(gwr b r).1, fun q => hCw (q ▸ r)⟩
  refine ⟨JDue g L' (L' + 1) oc l2 pc fs, ⟨_, kF.keeps iup, rfl, iup _ _ eC0, fun f hf => by cases hf⟩, ?_, ?_, ?_⟩
  · rintro i h h' jj2 k ex
    refine letter fun Qg hg => ?_
    obtain ⟨m, F, m1, e1, hn⟩ := jj2
    refine hg ?_
    clear hg
    exact ⟨m, Fr.after F k gwr, m1, k _ _ hCw e1, hn⟩
  · rintro i v h tk KK hi jj3 jj4 hex hK hKr
    refine letter fun Qg hg => ?_
    obtain ⟨T, x, y, rfl, hx, hy, hT⟩ := jj3
    obtain ⟨m, F, m1, e1, hn⟩ := jj4
    refine hg ?_
    clear hg
    refine letter fun Qg hg => ?_
    obtain ⟨f, hfi, a, rfl, hfd⟩ := g2.get hx
    refine hg ?_
    clear hg
    obtain ⟨lot, hli, hlv⟩ := g4.get hy
    rw [List.getElem?_map, hfi] at hli
    cases hli
    refine letter fun Qg hg => ?_
    obtain ⟨da, c, dc, hl2, ol, q1, q2, q3, q4, p1, p2, p3, p4, n, m', nh, no, t1, t2, v1, v2, v3, hv2, ov, d1, d2, d3, d4, d5, d6, d7, d8⟩ := id hfd
    refine hg ?_
    clear hg
    dsimp only [ent] at d2
    clear kN kF
    have hT' : IsTup h T [Value.ref a, y].toArray := hT
    refine letter fun Qg hg => ?_
    obtain ⟨own, hown, hoff, N⟩ := led1 e1 gC0.1 gC0.2
    refine hg ?_
    clear hg
    have F₀ := And.intro F trivial
    have fpk : ∀ h9 : Heap, Kept [L', L' + 1] h h9 → ∀ b ∈ fp, ∀ o, h.get? b = some o → h9.get? b = some o := fun h9 k b hb o e => k b o (fun q => by
      rcases List.mem_cons.mp q with q | q
      · exact (gfp b hb).1 q
      · exact (gfp b hb).2 (List.mem_singleton.mp q)) e
    rcases hlr : lawRows f with _ | rows
    · rw [hlr] at hlv
      obtain rfl := hlv
      w_strict k_steps
      · (try dsimp only)
        (with_reducible rename Fr _ _ _ _ => kF9)
        refine hKr _ _ ?_
        (repeat k_extra "Behind")
        refine hR _ _ (hq _ _ _ (fun b o e => kF9.keep _ _ (up _ _ e)) ?_)
        rw [find_at hn hfi (by simp only [inRange, Bool.and_eq_true, decide_eq_true_eq]; exact ⟨by assumption, by assumption⟩)]
        unfold DueRes; dsimp only; rw [hlr]
        exact ⟨_, rfl⟩
      · (with_reducible rename Fr _ _ _ _ => kF9)
        (with_reducible rename News _ _ _ _ => kN9)
        have k9 := rest_kept F₀.1 kF9 kN9 (fun p hp => by rw [← hown] at hp; k_ownIn)
        refine (hK _ _ ⟨_, kF9, m1, (kN9 (L' + 1, _) (by k_mem)).1, fun x hx => ?_⟩ (fpk _ k9)).1
        rw [take_snoc hfi] at hx
        rcases List.mem_append.mp hx with hx | hx
        · exact hn x hx
        · rw [List.mem_singleton.mp hx]
          simp only [inRange, Bool.and_eq_false_iff, decide_eq_false_iff_not]
          first | exact .inr (by assumption) | exact .inl (by assumption)
      · (with_reducible rename Fr _ _ _ _ => kF9)
        (with_reducible rename News _ _ _ _ => kN9)
        have k9 := rest_kept F₀.1 kF9 kN9 (fun p hp => by rw [← hown] at hp; k_ownIn)
        refine (hK _ _ ⟨_, kF9, m1, (kN9 (L' + 1, _) (by k_mem)).1, fun x hx => ?_⟩ (fpk _ k9)).1
        rw [take_snoc hfi] at hx
        rcases List.mem_append.mp hx with hx | hx
        · exact hn x hx
        · rw [List.mem_singleton.mp hx]
          simp only [inRange, Bool.and_eq_false_iff, decide_eq_false_iff_not]
          first | exact .inr (by assumption) | exact .inl (by assumption)
    · rw [hlr] at hlv
      refine letter fun Qg hg => ?_
      obtain ⟨R, rvs, rn, rfl, eR, AR⟩ := hlv
      refine hg ?_
      clear hg
      have hrl := hhead f (List.mem_of_getElem? hfi) rows hlr
      w_strict k_steps
      · unfold Held
        (with_reducible rename Fr _ _ _ _ => FN0)
        (with_reducible rename News _ _ _ _ => NN)
        have kN0 := rest_kept F₀.1 FN0 NN (fun p hp => by rw [← hown] at hp; k_ownIn)
        have eCN := (NN (L' + 1, _) (by k_mem)).1
        dsimp only at eCN
        obtain ⟨mN, FN, mm⟩ : ∃ m, Fr g L' _ m ∧ m (Str.ofString "rows") = some (.ref R) := ⟨_, FN0, rfl⟩
        refine' comp_T ?cl ?ce ?ki ?na ?_ (by intro _; rfl)
        case cl => exact rfl
        case ce => decide
        case ki => exact rfl
        case na => decide
        walk1
        clear FN0 NN
        refine list_T (vs := rvs) rfl ⟨_, FN.keep _ _ eR, rfl, rn, rfl⟩ (by rw [sizeLine_eq, AR.length]; omega) ?_
        rintro fp2 wr2 h₂ jj5 C D h₃ nC nD neCD up3 exC eD3
        refine letter fun Qg hg => ?_
        obtain ⟨isrc2, iwr2, iup2, ithere2, ind2⟩ := jj5
        refine hg ?_
        clear hg
        dsimp only at iwr2 iup2
        have oldN : ∀ b, (∃ o, Heap.get? _ b = some o) → b ∉ C :: D :: wr2 := fun b hb q => by
          obtain ⟨o, e⟩ := hb
          rcases List.mem_cons.mp q with q | q
          · rw [← q, iup2 _ _ e] at nC; cases nC
          · rcases List.mem_cons.mp q with q | q
            · rw [← q, iup2 _ _ e] at nD; cases nD
            · rw [(iwr2 b q).2] at e; cases e
        have gn3 : ∀ b ∈ C :: D :: wr2, b ≠ L' ∧ g.get? b = none := fun b hb => by
          refine ⟨fun q => oldN b (q ▸ fr_there FN) hb, ?_⟩
          cases q : g.get? b with
          | none => rfl
          | some o => exact absurd hb (oldN b ⟨o, FN.keep _ _ q⟩)
        refine ⟨fun i2 ys h4 => Fr g L' h4 mN ∧ h4.get? (L' + 1) = some oc ∧ All2 (LotRow w g) ys ((rows.take i2).filter fun r => decide (r.addr ≤ pc)), ⟨FN.keeps (fun b o e => up3 _ _ (iup2 _ _ e)), up3 _ _ (iup2 _ _ eCN), .nil⟩, ?_, ?_, ?_⟩
        · rintro i2 ys h4 h5 ⟨J1, J2, J3⟩ k ex
          exact ⟨Fr.after J1 k gn3, k _ _ (oldN _ ⟨_, eCN⟩) J2, J3⟩
        · rintro i2 ys v h4 tk4 m4 E4 hi2 hv ⟨J1, J2, J3⟩ hns hD4 hex4
          obtain ⟨r, hr, hrow⟩ := AR.get hv
          refine letter fun Qg hg => ?_
          obtain ⟨T5, t5, cv5, D5, n5, rfl, eT5, C5, R5⟩ := id hrow
          refine hg ?_
          clear hg
          refine single_C hns fun h5 tk5 oC m5 eC5 hC5 m5r k5 => ?_
          have F5 := Fr.after J1 k5 (fun a ha => gn3 a (by rw [List.mem_singleton.mp ha]; exact .head _))
          have k45 := k5 _ _ (fun q => oldN (L' + 1) ⟨_, eCN⟩ (List.mem_singleton.mp q ▸ .head _)) J2
          have hD5 := k5 _ _ (fun q => neCD (List.mem_singleton.mp q).symm) hD4
          have fp5 : ∀ b ∈ fp2, ∀ o, h4.get? b = some o → h5.get? b = some o := fun b hb o e => k5 _ _ (fun q => by
            obtain ⟨o2, e2⟩ := ithere2 b hb
            rw [List.mem_singleton.mp q, nC] at e2; cases e2) e
          refine t_itemLe (name_C eC5 hC5 m5r) (isTup_of (F5.keep _ _ eT5)) (name_CC rfl k45 dC) ?_
          by_cases z : r.addr ≤ pc
          · rw [if_pos (by simpa using z)]
            refine (name_C eC5 hC5 m5r) _ _ _ _ (Up.refl _) ?_
            exact ⟨_, _, rfl, ⟨F5, k45, by rw [take_snoc hr, List.filter_append, List.filter_cons_of_pos (by simpa using z)]; exact J3.append (.cons hrow .nil)⟩, hD5, ⟨_, hC5.ns eC5⟩, fp5⟩
          · rw [if_neg (by simpa using z)]
            exact ⟨_, _, rfl, ⟨F5, k45, by rw [take_snoc hr, List.filter_append, List.filter_cons_of_neg (by simpa using z), List.filter_nil, List.append_nil]; exact J3⟩, hD5, ⟨_, hC5.ns eC5⟩, fp5⟩
        · rintro ys h4 h5 tk5 ⟨J1, J2, J3⟩ hD4 k5 hyl
          have sub5 : ∀ a ∈ C :: wr2, a ∈ C :: D :: wr2 := fun a ha => by
            rcases List.mem_cons.mp ha with ha | ha
            · rw [ha]; exact .head _
            · exact .tail _ (.tail _ ha)
          have F5 := Fr.after J1 k5 (fun a ha => gn3 a (sub5 a ha))
          have eD5 := k5 _ _ (fun q => by
            rcases List.mem_cons.mp q with q | q
            · exact neCD q.symm
            · obtain ⟨o, e⟩ := ithere2 D (iwr2 D q).1
              rw [nD] at e; cases e) hD4
          have eC5 := k5 _ _ (fun q => oldN (L' + 1) ⟨_, eCN⟩ (sub5 _ q)) J2
          rw [AR.length, List.take_length] at J3
          refine letter fun Qg hg => ?_
          obtain ⟨r0, rs0, hrs, hr0⟩ := hrl.2
          refine hg ?_
          clear hg
          have hne : rows.filter (fun r => decide (r.addr ≤ pc)) ≠ [] := by
            rw [hrs, List.filter_cons_of_pos (by simp only [decide_eq_true_eq]; omega)]
            exact List.cons_ne_nil _ _
          obtain ⟨fl, rl, hfl9⟩ := (List.eq_nil_or_concat (rows.filter fun r => decide (r.addr ≤ pc))).resolve_left hne
          rw [List.concat_eq_append] at hfl9
          rw [hfl9] at J3
          refine letter fun Qg hg => ?_
          obtain ⟨ys1, y, rfl, J7, hy⟩ := J3.snoc
          refine hg ?_
          clear hg
          refine letter fun Qg hg => ?_
          obtain ⟨own6, hown6, hoff6, N6⟩ := led2 eD5 (gn3 D (.tail _ (.head _))).1 (gn3 D (.tail _ (.head _))).2 eC5 gC0.1 gC0.2
          refine hg ?_
          clear hg
          have F₆ := And.intro F5 trivial
          clear N
          dsimp only
          w_strict k_steps
          (try dsimp only)
          (with_reducible rename Fr _ _ _ _ => kF9)
          (with_reducible rename News _ _ _ _ => kN9)
          have k9 := rest_kept F₆.1 kF9 kN9 (fun p hp => by rw [← hown6] at hp; k_ownIn)
          refine hKr _ _ ?_
          (repeat k_extra "Behind")
          refine hR _ _ (hq _ _ _ (fun b o e => kF9.keep _ _ (up _ _ e)) ?_)
          rw [find_at hn hfi (by simp only [inRange, Bool.and_eq_true, decide_eq_true_eq]; exact ⟨by assumption, by assumption⟩)]
          unfold DueRes; dsimp only; rw [hlr]
          refine ⟨rl, by rw [hfl9, List.getLast?_concat], hy.up kF9.keep⟩
      · (with_reducible rename Fr _ _ _ _ => kF9)
        (with_reducible rename News _ _ _ _ => kN9)
        have k9 := rest_kept F₀.1 kF9 kN9 (fun p hp => by rw [← hown] at hp; k_ownIn)
        refine (hK _ _ ⟨_, kF9, m1, (kN9 (L' + 1, _) (by k_mem)).1, fun x hx => ?_⟩ (fpk _ k9)).1
        rw [take_snoc hfi] at hx
        rcases List.mem_append.mp hx with hx | hx
        · exact hn x hx
        · rw [List.mem_singleton.mp hx]
          simp only [inRange, Bool.and_eq_false_iff, decide_eq_false_iff_not]
          first | exact .inr (by assumption) | exact .inl (by assumption)
      · (with_reducible rename Fr _ _ _ _ => kF9)
        (with_reducible rename News _ _ _ _ => kN9)
        have k9 := rest_kept F₀.1 kF9 kN9 (fun p hp => by rw [← hown] at hp; k_ownIn)
        refine (hK _ _ ⟨_, kF9, m1, (kN9 (L' + 1, _) (by k_mem)).1, fun x hx => ?_⟩ (fpk _ k9)).1
        rw [take_snoc hfi] at hx
        rcases List.mem_append.mp hx with hx | hx
        · exact hn x hx
        · rw [List.mem_singleton.mp hx]
          simp only [inRange, Bool.and_eq_false_iff, decide_eq_false_iff_not]
          first | exact .inr (by assumption) | exact .inl (by assumption)
  · rintro h h' tk jj6 k
    refine letter fun Qg hg => ?_
    obtain ⟨m, F, m1, e1, hn⟩ := jj6
    refine hg ?_
    clear hg
    clear kF kN
    have F := Fr.after F k gwr
    rw [hfl, hll, Nat.min_self, List.take_length] at hn
    (try dsimp only)
    w_strict k_steps
    (with_reducible rename Fr _ _ _ _ => kF)
    refine hR _ _ (hq _ _ _ (fun b o e => kF.keep _ _ (up _ _ e)) ?_)
    rw [List.find?_eq_none.mpr (fun x hx => by rw [hn x hx]; decide)]
    rfl
section
variable {prog : Program} {w : World} {A₀ A : Around} {s : Shared} {base h₀ : Heap} {outer : List Env} {L : Addr} {m mg mb : Str → Option Value} {env : Env} {K : Frag} {p : Program} {loose : List Str} {mean : ExcName → Option Value}
  {Q E : Value → Shared → Prop} {name qual : Str} {params : Arguments} {body : PySem.Expr} {scope : Scope} {cl : List (Str × Addr)} {pm ctv : Value} {c' f : Addr} {args : List Value} {binds : List (Str × Value)}
/-- into a lambda that the call has made -/
theorem enterLam (B : Below A₀ base outer h₀) (F : Fr h₀ L s.heap m) (X₀ : K.In h₀) (T : Top p loose mean mg mb h₀)
    (hA : A.frames = some (env :: outer)) (hf : env.frame = some L) (hke : env.scope.kind = .function)
    (ho : s.heap.get? f = some (kla_obj name qual params body scope cl pm c' ctv)) (hcd : s.heap.CodeRec (.ref c') qual) (hroom : A.depth < recursionLimit)
    (hbind : bindArgs (kla_fn name qual params body scope cl pm (.ref c') ctv) ⟨args, []⟩ = pure binds) (hloc : ∀ y ∈ binds, scope.names.lookup y.1 = some .local)
    (h : ∀ g L' h₁ tk (QQ EE : Value → Shared → Prop), Up s.heap g → s.heap.get? L' = none → Fr g L' h₁ (fun y => binds.reverse.lookup y) → Below A base (env :: outer) g → K.In g → Top p loose mean mg mb g →
      (∀ v s', Q v s' → QQ v s') →
      (∀ e s', wpAny (model prog w) (A.deeper (envX qual scope L' f (.ref c') cl)) (leaving (envX qual scope L' f (.ref c') cl) e) (fun _ s'' => E e s'') (fun e' s'' => E e' s'') s' → EE e s') →
      wpAny (model prog w) (A.deeper (envX qual scope L' f (.ref c') cl)) (eval body (envX qual scope L' f (.ref c') cl)) QQ EE { s with heap := h₁, toks := tk })
    (hco : scope.isCoroutine = false) (hgen : scope.isGenerator = false) (hk : scope.kind = .function) (hcell : ∀ x ∈ scope.names, x.2 ≠ .cell) : wpAny (model prog w) A (call (.ref f) args) Q E s := by
  refine wpAny_call ?_
  have N : News h₀ L s.heap [] := fun p hp => by cases hp
  obtain ⟨FG, BG, st, lv⟩ := groundX (R := fun r s' => match r with | .ok (.ret v) => Q v s' | .ok _ => Q .none s' | .error e => E e s') B F N hA hf hke
  refine kla_callFunE hroom ho rfl hco hgen rfl hcd ?_
  rw [hbind]
  refine wpAny_pure (wpAny_newFunctionEnv hcell hloc (fun h₁ hns hsb => ⟨((T.nolimit).keeps F.keep).fresh _ hsb, ?_⟩) hk)
  show codeAny _ _ (.expr body (envX qual scope s.heap.objs.size f (.ref c') cl)) _ _
  have hk₁ : ∀ b o, s.heap.get? b = some o → h₁.get? b = some o := fun b o e => hsb.extBut b o (Nat.ne_of_lt (Heap.lt_size e)) (Heap.get?_push_of_some _ e)
  refine kla_codeExpr ?_
  exact h _ s.heap.objs.size h₁ _ _ _ (fun b o e => hideAll_get _ e List.not_mem_nil) (Heap.get?_none_of_le (Nat.le_refl _)) ⟨hns, fun b o e => hk₁ b o (of_hideAll _ e), Nat.le_of_eq (hideAll_size _ _)⟩ BG (X₀.keeps st) (T.keeps st) (fun _ _ q => q) (fun _ _ q => q)
end
theorem funFrames_none {h base : Heap} : ∀ {l : List Env}, h.FunFrames base l → ∀ env ∈ l, ∀ b, env.frame = some b → base.get? b = none
  | [], _, env, he, _, _ => nomatch he
  | e1 :: r, ⟨_, ⟨L, o, hf, hn, _, _⟩, hr⟩, env, he, b, hb => by
    rcases List.mem_cons.mp he with rfl | he
    · rw [hf] at hb; cases hb; exact hn
    · exact funFrames_none hr env he b hb
section
variable {prog : Program} {w : World} {A₀ : Around} {E : Value → Shared → Prop} {s' : Shared} {base g G : Heap} {outer : List Env} {L a e : Addr} {m : Str → Option Value} {name : Str} {scope : Scope} {cd : Value}
  {b₀ : Stmt} {suite : List Stmt} {pos np : Pos} {rest : List ExceptHandler} {Q : Flow → Shared → Prop} {KF : Frag}
  {p : Program} {loose : List Str} {mean : ExcName → Option Value} {mg mb : Str → Option Value} {x : Str}
/-- a fault is caught -/
theorem caught_fault (B : Below A₀ base outer g) (F : Fr g L G m) (R : FaultOut [] (envOf name scope L a cd :: outer) G e s'.heap)
    (X : KF.In base) (T : Top p loose mean mg mb base) (ex : nsIn KF mainGlobals x = some (some (.ref 44))) (FC : FaultCls base)
    (k : ∀ h', Kept ((envOf name scope L a cd :: outer).filterMap (·.frame)) G h' → (∀ b o, G.get? b = some o → (∀ vs, o.data ≠ .fields vs) → ∃ sl, h'.get? b = some { o with slots := sl }) →
      wpAny (model prog w) ((A₀.deeper (envOf name scope L a cd)).mark (some (.ref e))) (execs (b₀ :: suite) (envOf name scope L a cd)) Q (notedBy (model prog w) ((A₀.deeper (envOf name scope L a cd)).mark (some (.ref e))) (envOf name scope L a cd) (cameBackBy (model prog w) (A₀.deeper (envOf name scope L a cd)) (envOf name scope L a cd) E)) { s' with heap := h' })
    (hk : scope.kind = .function := by rfl) (hx : (envOf name scope L a cd).kindOf x = some .globalImplicit := by rfl) (hd : (x == ("__debug__" : Str)) = false := by decide) :
    wpAny (model prog w) (A₀.deeper (envOf name scope L a cd)) (noteFrame (.ref e) (envOf name scope L a cd))
      (fun _ s₂ => wpAny (model prog w) (A₀.deeper (envOf name scope L a cd)) (setFlight (.ref e) none) (fun _ s₃ =>
        wpAny (model prog w) (A₀.deeper (envOf name scope L a cd)) (handleBy (.ref e) (envOf name scope L a cd) (.ExceptHandler (some (.Name x np)) none (b₀ :: suite) pos :: rest)) Q E s₃) E s₂) E s' := by
  obtain ⟨⟨Bb, a0, hB, hfl⟩, hsl⟩ := R
  have st2 : base.StaysIn (hideAll g ((envOf name scope L a cd :: outer).filterMap (·.frame))) := fun b o e => hideAll_get _ (B.stays b o e) (fun hm => by
    obtain ⟨env, henv, hfr⟩ := List.mem_filterMap.mp hm
    rcases List.mem_cons.mp henv with rfl | henv
    · have hL : L = b := Option.some.inj hfr
      have := Heap.lt_size (B.stays b o e)
      rw [← hL] at this
      exact absurd (Nat.lt_of_lt_of_le this F.above) (Nat.lt_irrefl _)
    · rw [funFrames_none B.frames env henv b hfr] at e; cases e)
  have stB : (hideAll g ((envOf name scope L a cd :: outer).filterMap (·.frame))).StaysIn Bb := fun b o e => hB b o (F.keep _ _ (of_hideAll _ e)) List.not_mem_nil (fun hm => by rw [hideAll_none _ hm] at e; cases e)
  have nsG : ∃ sl oL, G.get? L = some oL ∧ s'.heap.get? L = some { oL with slots := sl } := by
    obtain ⟨oL, es, ep, e1, e2, _⟩ := F.ns
    obtain ⟨sl, h1⟩ := hsl L oL e1 List.not_mem_nil (fun vs q => by rw [e2] at q; cases q)
    exact ⟨sl, oL, e1, h1⟩
  have nsS : s'.heap.Ns L m := by
    obtain ⟨oL, es, ep, e1, e2, r⟩ := F.ns
    obtain ⟨sl, o2, e3, e4⟩ := nsG
    rw [e1] at e3
    cases e3
    exact ⟨_, es, ep, e4, e2, r⟩
  refine wpAny_looks_onW (Around.frames_deeper B.stack) rfl hfl fun h₄ hheld₄ hsm₄ => ?_
  refine wpAny_landsW hheld₄ fun h₅ hheld hsm₅' => ?_
  have hsm₅ := hsm₄.trans hsm₅'
  have F₅ : Fr (hideAll g ((envOf name scope L a cd :: outer).filterMap (·.frame))) L h₅ m := ⟨hsm₅.ns nsS, fun b o e => hheld.1 _ _ (stB b o e), by rw [hideAll_size]; exact F.above⟩
  obtain ⟨ob, hob, hobc⟩ := hheld.there
  refine wpAny_handleBy_cons (codeAny_handlers_test (name_K F₅ (X.keeps st2) (topRead_of (T.keeps st2)) ex ?_ hk hx hd)) (by intro q; cases q)
  obtain ⟨a1, a2, a3, a4, a5, a6, a7, a8, a9, b1, b2, b3, b4, hC⟩ := ((FC.keeps st2).keeps F₅.keep).c44
  have hcB : excTail.contains (.type "BaseException") = true := by decide
  refine wpAny_excMatches_sub_self hC hob hobc hcB (codeAny_handlers_suite ?_)
  refine lands_againW hheld fun h₆ hfl₆ hsm₆ => ?_
  refine k h₆ (fun b o hb e => hfl₆.1 _ _ (hB b o e List.not_mem_nil hb)) (fun b o e hn => ?_)
  obtain ⟨sl, h1⟩ := hsl b o e List.not_mem_nil hn
  obtain ⟨sl2, h2⟩ := (hsm₅.trans hsm₆) b _ h1 hn
  exact ⟨sl2, h2⟩
end
theorem lines_L9 : True := by
  k_with_none
  (k_with "execs cons" => (k_here; first | ((fail_if_success (fail_if_success k_gentoks)); (refine tok_letter ?_); intro tk) | (with_reducible refine execs_one ?_) | (with_reducible refine execs_cons_L ?_; intro Q9 hQ9)))
  (k_with "Behind" => ((rename (∀ f s', _ → Behind _ f s') => hB9); first | ((with_reducible refine hB9 _ _ ?_); (try dsimp only)) | (clear hB9; k_extra "Behind")))
  (k_with "eval Name" => (k_here; k_dflt (refine' nameX_L ?FzL91 ?vzL91 ?_ ?azL91 ?bzL91; (case FzL91 => k_asm); (case azL91 => rfl); (case bzL91 => rfl); (case vzL91 => assumption); k_whole)))
  (k_with "callWith ref" => (k_here; (with_reducible show wpAny _ _ (callWith _ (Value.ref _) _ _ _) _ _ _); refine Held.out ?_))
  (k_with "exec Try" => (k_here; (with_reducible show wpAny _ _ (exec (Stmt.Try _ _ _ _ _) _) _ _ _); refine Held.out ?_))
  (k_with "m k_lt" => (intro hlt9; replace hlt9 := allLt_of hlt9; dsimp only [AllLt] at hlt9; revert hlt9))
  (k_with "m k_ne" => ((refine neN ?_; (try dsimp only); first | (with_reducible assumption) | (with_reducible exact Ne.symm (by assumption)) | omega)))
  (k_with "m k_inst" => (exact inst_base (by with_reducible assumption) (by with_reducible assumption) (by with_reducible assumption)))
  (k_with "m k_room" => (((try simp only [depth_under_make, depth_under_kw, depth_in1, depth_deeper, depth_caller]); (try dsimp only [arT]); omega)))
  (k_with "m k_handed" => (assumption))
  trivial

/-- what is asked of a deed, wherever it is called -/
noncomputable def DeedOk (w : World) (mean : ExcName → Option Value) (loose : List Str) (mg mb : Str → Option Value) (dp un : Nat) (gd : Option (List Code)) (env : Env) (outer : List Env) (base h₀ : Heap) (s : Shared) (f : Addr) (R : Heap → Value → Prop) (P : Prop) : Prop :=
  ∀ (g : Heap) (L' : Addr) (h₁ : Heap) (tk : Nat) (env' : Env) (m' : Str → Option Value) (Q1 E1 : Value → Shared → Prop), Up s.heap g → Below (arT dp un gd env outer) base (env :: outer) g → Fr g L' h₁ m' → (hd.heap_1 w.params).In g → Top topProg loose mean mg mb g → env'.frame = some L' → env'.scope.kind = .function →
    (∀ v h' tk', Up h₁ h' → R h' v → Q1 v { s with heap := h', toks := tk' }) → (∀ e h' tk', P → FaultOut [] (env' :: env :: outer) h₁ e h' → E1 (.ref e) { s with heap := h', toks := tk' }) →
    wpAny (model PySem.Challenge.rw_on0310_01.row.prog w) (arT (dp + 1) (un + 3) gd env' (env :: outer)) (call (.ref f) []) Q1 E1 { s with heap := h₁, toks := tk }
set_option maxHeartbeats 16000000 in
theorem heard_h {w : World} {loose : List Str} {mean : ExcName → Option Value} {mg mb : Str → Option Value} {A₀ : Around} {dp un : Nat} {gd : Option (List Code)} {env : Env} {outer : List Env} {base h₀ : Heap} {L : Addr} {m : Str → Option Value} {s : Shared} {Q E : Value → Shared → Prop} {f : Addr} {of : Obj} {R : Heap → Value → Prop} {P : Prop}
    (B : Below A₀ base outer h₀) (F : Fr h₀ L s.heap m) (X : (hd.heap_1 w.params).In h₀) (T : Top topProg loose mean mg mb h₀)
    (hf : env.frame = some L) (hk : env.scope.kind = .function) (hroom : dp + 8 < recursionLimit) (XB : (hd.heap_1 w.params).In base) (TB : Top topProg loose mean mg mb base) (hfn : FnAt f s.heap) (hdd : DeedOk w mean loose mg mb dp un gd env outer base h₀ s f R P)
    (hq : ∀ v h' tk', Up s.heap h' → R h' v → Q v { s with heap := h', toks := tk' })
    (hf9 : ∀ t h' tk', P → Kept ((env :: outer).filterMap (·.frame)) s.heap h' → (∀ b o, s.heap.get? b = some o → (∀ vs, o.data ≠ .fields vs) → ∃ sl, h'.get? b = some { o with slots := sl }) → Q (.str (Str.ofString "fault") t) { s with heap := h', toks := tk' }) :
    wpAny (model PySem.Challenge.rw_on0310_01.row.prog w) (arT dp un gd env outer) (call (.ref 241) [.ref f]) Q E s := by
  revert X; k_fill; intro X
  have N : News h₀ L s.heap [] := fun p hp => by cases hp
  k_dflt (refine' enter2 (binds := [(Str.ofString "deed", .ref f)]) B F X T N rfl hf hk ?k6 ?k7 ?k8 ?k9 ?kB ?_ ?c2 ?c3 ?c4 ?c5; (case k6 => k_is); (case k7 => k_is); (case k8 => show dp < _; omega); (case k9 => exact BindsTo.of_eq rfl); (case c5 => decide); (case kB => exact locs rfl); (case c2 => exact rfl); (case c3 => exact rfl); (case c4 => exact rfl); k_whole; intro g L' h' tk0 QQ EE hg hk₁ hL' F' N' B' X' T' hR hNx hEx hPo; (try dsimp only); (try k_fold))

  have up : Up s.heap g := fun b o e => hg b o List.not_mem_nil e
  clear hg hk₁
  w_strict k_steps
  unfold Held
  refine wpAny_Try_except ?_
  w_strict k_steps
  unfold Held
  (with_reducible rename Fr _ _ _ _ => F1)
  refine letter fun Qg hg => ?_
  obtain ⟨oc, od, fd, sl, hfo⟩ := hfn
  refine hg ?_
  clear hg
  refine callWith_F0 ⟨oc, od, fd, sl, F1.keep _ _ (up _ _ hfo)⟩ ?_
  dsimp only [List.nil_append]
  refine' hdd g L' _ _ _ _ _ _ up B' F1 X' T' ?a ?b ?c ?d
  case a => rfl
  case b => rfl
  case c =>
    intro v h9 tk9 up9 r
    (try dsimp only)
    exact hR _ _ (hq _ _ _ (fun b o e => up9 _ _ (F1.keep _ _ (up _ _ e))) r)
  case d =>
    intro e h9 tk9 hp hF
    refine caught_fault B' F1 hF XB TB (by k_is) (faultCls XB) fun h6 K6 S6 => ?_
    w_strict k_steps
    (try dsimp only)
    refine hR _ _ (hf9 _ _ _ hp (fun b o hb e => K6 b o (fun q => ?_) (F1.keep _ _ (up _ _ e))) (fun b o e hn => S6 b o (F1.keep _ _ (up _ _ e)) hn))
    rcases List.mem_cons.mp q with q | q
    · rw [q, hL'] at e; cases e
    · exact hb q
section
variable {w : World} {A : Around} {s : Shared}
theorem rule_eq {v y : Value} {r : Rule} (x : RuleIn s.heap v r) (z : RuleIn s.heap y r) (hu : A.units + 10 < cLine) : SeqAt.EqAt A s v y true := by
  cases x with
  | @mk a x1 y1 t u n e1 =>
    cases z with
    | @mk b _ _ t2 u2 n2 e2 =>
      by_cases h : a = b
      · subst h; exact SeqAt.EqAt.same _
      · refine SeqAt.EqAt.of_refs h ?_
        have := SeqAt.RcAt.tuples (A := A) (s := s) (e := fun _ => true) (isTup_of e1) (isTup_of e2) (by omega) (fun j h1 h2 => by
          have hj : j = 0 ∨ j = 1 := by simp at h1; omega
          rcases hj with rfl | rfl
          · have := SeqAt.EqAt.str_str (A := A.in1) (s := s) x1 t x1 t2
            rwa [beq_self_eq_true] at this
          · have := SeqAt.EqAt.int_int (A := A.in1) (s := s) y1 u y1 u2
            rwa [beq_self_eq_true] at this)
        exact this
theorem cfa_eq {v y : Value} {c : Cfa} (x : CfaIn s.heap v c) (z : CfaIn s.heap y c) (hu : A.units + 10 < cLine) : SeqAt.EqAt A s v y true := by
  cases x with
  | nil => cases z; exact SeqAt.EqAt.same _
  | @pair a x1 y1 t u n e1 =>
    cases z with
    | @pair b _ _ t2 u2 n2 e2 =>
      by_cases h : a = b
      · subst h; exact SeqAt.EqAt.same _
      · refine SeqAt.EqAt.of_refs h ?_
        have := SeqAt.RcAt.tuples (A := A) (s := s) (e := fun _ => true) (isTup_of e1) (isTup_of e2) (by omega) (fun j h1 h2 => by
          have hj : j = 0 ∨ j = 1 := by simp at h1; omega
          rcases hj with rfl | rfl
          · have := SeqAt.EqAt.int_int (A := A.in1) (s := s) x1 t x1 t2
            rwa [beq_self_eq_true] at this
          · have := SeqAt.EqAt.int_int (A := A.in1) (s := s) y1 u y1 u2
            rwa [beq_self_eq_true] at this)
        exact this
theorem nodup_len {l1 l2 : List Int} (h1 : l1.Nodup) (hs : ∀ x ∈ l1, x ∈ l2) : l1.length ≤ l2.length := by
  induction l1 generalizing l2 with
  | nil => exact Nat.zero_le _
  | cons a t ih =>
    rw [List.nodup_cons] at h1
    have ha := hs a (.head _)
    have := ih (l2 := l2.erase a) h1.2 (fun x hx => (List.mem_erase_of_ne (fun (q : x = a) => h1.1 (by rw [← q]; exact hx))).mpr (hs x (.tail _ hx)))
    rw [List.length_erase_of_mem ha] at this
    have hp := List.length_pos_of_mem ha
    rw [List.length_cons]; omega
theorem key_mem {kvs : List (Int × Value)} {k : Int} : k ∈ kvs.map (·.1) ↔ (valueAt kvs k).isSome = true := by
  rw [← va_any]
  simp only [List.mem_map, List.any_eq_true, decide_eq_true_eq]
theorem bears_some {h : Heap} {kvs : List (Int × Value)} {f : Rules} (B : Bears h kvs f) (k : Int) : (valueAt kvs k).isSome = (f k).isSome := by
  cases e : valueAt kvs k with
  | none => rw [B.dom k e]; rfl
  | some v => obtain ⟨r, hr, _⟩ := B.val k v e; rw [hr]; rfl
theorem va_mem {kvs : List (Int × Value)} (hn : (kvs.map (·.1)).Nodup) {k : Int} {v : Value} (hm : (k, v) ∈ kvs) : valueAt kvs k = some v := by
  induction kvs with
  | nil => cases hm
  | cons p r ih =>
    rw [List.map_cons, List.nodup_cons] at hn
    rw [va_cons]
    rcases List.mem_cons.mp hm with rfl | hm
    · rw [if_pos rfl]
    · rw [if_neg (fun q => hn.1 (List.mem_map.mpr ⟨_, hm, q.symm⟩))]
      exact ih hn.2 hm
theorem pairs_any {prog prog' : Program} {w' : World} {l : List DictEntry} {kvs : List (Int × Value)} (x : Pairs (intKind prog w) l kvs) : Pairs (intKind prog' w') l kvs := by
  induction x with
  | nil => exact .nil
  | cons h1 h2 _ ih => exact .cons h1 h2 ih
theorem dict_any {prog prog' : Program} {w' : World} {o : Obj} {kvs : List (Int × Value)} (x : o.IsDictOf (intKind prog w) kvs) : o.IsDictOf (intKind prog' w') kvs := by
  obtain ⟨es, ep, h1, h2, h3, h4, h5⟩ := x
  exact ⟨es, ep, h1, h2, h3, pairs_any h4, h5⟩
theorem rules_eq {a b : Addr} {f : Rules} (x : RulesAt w s.heap a f) (z : RulesAt w s.heap b f) (hu : A.units + 20 < cLine) : SeqAt.RcAt A s (.ref a) (.ref b) true := fun prog w' E Q h => by
  obtain ⟨oa, ka, ea, la, da, ba⟩ := x
  obtain ⟨ob, kb, eb, lb, db, bb⟩ := z
  have na := isDict_nodup da
  have nb := isDict_nodup db
  have hlen : ka.length = kb.length := by
    have h1 := nodup_len na (l2 := kb.map (·.1)) (fun k hk => key_mem.mpr (by rw [bears_some bb, ← bears_some ba]; exact key_mem.mp hk))
    have h2 := nodup_len nb (l2 := ka.map (·.1)) (fun k hk => key_mem.mpr (by rw [bears_some ba, ← bears_some bb]; exact key_mem.mp hk))
    simp only [List.length_map] at h1 h2
    omega
  have hits : ∀ l : List (Int × Value), (∀ p ∈ l, p ∈ ka) → KeqHits A.in1 s kb l true := by
    intro l
    induction l with
    | nil => intro _; exact .nil
    | cons p r ih =>
      intro hs
      have hv := va_mem na (k := p.1) (v := p.2) (hs p (.head _))
      obtain ⟨rl, hr, hri⟩ := ba.val _ _ hv
      cases e : valueAt kb p.1 with
      | none => rw [bb.dom _ e] at hr; cases hr
      | some y =>
        obtain ⟨rl2, hr2, hri2⟩ := bb.val _ _ e
        rw [hr] at hr2
        cases hr2
        exact KeqHits.hit (e := true) (b := true) e (rule_eq (A := A.in1) hri hri2 (by show A.units + 1 + 10 < cLine; omega)) (ih fun q hq => hs q (.tail _ hq))
  refine keq_eq (knd := intKind prog w') la lb (Heap.dictOf_iff.mpr ⟨oa, ea, dict_any da⟩) (Heap.dictOf_iff.mpr ⟨ob, eb, dict_any db⟩) (by omega) (fun _ => hits ka fun p hp => hp) ?_
  rw [hlen, beq_self_eq_true]
  exact h
/-- two rows that tell the same -/
theorem lot_rc {v y : Value} {r : Row} (x : LotRow w s.heap v r) (z : LotRow w s.heap y r) (hu : A.units + 40 < cLine) : ∃ a b, v = .ref a ∧ y = .ref b ∧ SeqAt.RcAt A s (.ref a) (.ref b) true ∧ SeqAt.RcNeAt A s (.ref a) (.ref b) false := by
  obtain ⟨a, t, cv, D, n, rfl, e1, e2, e3⟩ := x
  obtain ⟨b, t', cv', D', n', rfl, f1, f2, f3⟩ := z
  have hitem : ∀ j (h1 : j < [Value.int r.addr t, cv, .ref D].toArray.size) (h2 : j < [Value.int r.addr t', cv', .ref D'].toArray.size), SeqAt.EqAt A.in1 s ([Value.int r.addr t, cv, .ref D].toArray[j]) ([Value.int r.addr t', cv', .ref D'].toArray[j]) true := fun j h1 h2 => by
    have hj : j = 0 ∨ j = 1 ∨ j = 2 := by simp at h1; omega
    rcases hj with rfl | rfl | rfl
    · have := SeqAt.EqAt.int_int (A := A.in1) (s := s) r.addr t r.addr t'
      rwa [beq_self_eq_true] at this
    · exact cfa_eq (A := A.in1) e2 f2 (by show A.units + 1 + 10 < cLine; omega)
    · by_cases h : D = D'
      · subst h; exact SeqAt.EqAt.same _
      · exact SeqAt.EqAt.of_refs h (rules_eq (A := A.in1) e3 f3 (by show A.units + 1 + 20 < cLine; omega))
  exact ⟨a, b, rfl, rfl, SeqAt.RcAt.tuples (A := A) (s := s) (e := fun _ => true) (isTup_of e1) (isTup_of f1) (by omega) hitem, SeqAt.RcNeAt.tuples (A := A) (s := s) (e := fun _ => true) (isTup_of e1) (isTup_of f1) (by omega) hitem⟩
theorem lot_eq {v y : Value} {r : Row} (x : LotRow w s.heap v r) (z : LotRow w s.heap y r) (hu : A.units + 40 < cLine) : SeqAt.EqAt A s v y true := by
  obtain ⟨a, b, rfl, rfl, h1, _⟩ := lot_rc x z hu
  by_cases h : a = b
  · subst h; exact SeqAt.EqAt.same _
  · exact SeqAt.EqAt.of_refs h h1
end
section
variable {prog : Program} {w : World} {A : Around} {E : Value → Shared → Prop} {s : Shared}
/-- two rows that tell the same: no difference -/
theorem ne_lot {v y : Value} {r : Row} {Q : Value → Shared → Prop} (x : LotRow w s.heap v r) (z : LotRow w s.heap y r) (hu : A.units + 40 < cLine) (h : Q (.bool false) s) : wpAny (model prog w) A (compareOp .NotEq v y) Q E s := by
  obtain ⟨a, b, rfl, rfl, _, h1⟩ := lot_rc x z hu
  exact h1 prog w E Q h
theorem ne_lots {a b : Addr} {vs ys : List Value} {rows : List Row} {Q : Value → Shared → Prop} (ha : s.heap.IsList a vs.toArray) (hb : s.heap.IsList b ys.toArray) (x : All2 (LotRow w s.heap) vs rows) (z : All2 (LotRow w s.heap) ys rows) (hu : A.units + 50 < cLine) (h : Q (.bool false) s) :
    wpAny (model prog w) A (compareOp .NotEq (.ref a) (.ref b)) Q E s := by
  have hl : vs.length = ys.length := x.length.trans z.length.symm
  have := SeqAt.RcNeAt.lists (A := A) (s := s) (e := fun _ => true) ha hb (by simpa using hl) (by omega) (fun j h1 h2 => by
    have e1 : vs[j]? = some (vs.toArray[j]) := by simp at h1; simp [h1]
    have e2 : ys[j]? = some (ys.toArray[j]) := by simp at h2; simp [h2]
    obtain ⟨r, hr, p1⟩ := x.get e1
    obtain ⟨r', hr', p2⟩ := z.get e2
    rw [hr] at hr'
    cases hr'
    exact lot_eq (A := A.in1) p1 p2 (by show A.units + 1 + 40 < cLine; omega))
  refine this prog w E Q ?_
  rw [List.all_eq_true.mpr (fun _ _ => rfl)]
  exact h
end
theorem lines_O1 : True := by
  k_with_none
  (k_with "execs cons" => (k_here; first | ((fail_if_success (fail_if_success k_gentoks)); (refine tok_letter ?_); intro tk) | ((fail_if_success (with_reducible show wpAny _ _ _ (Behind _) _ _)); (with_reducible refine Q_letter ?_); intro Q9 hQ9) | (with_reducible refine execs_one ?_) | (with_reducible refine execs_cons_L ?_; intro Q9 hQ9)))
  (k_with "Behind" => ((rename (∀ f s', _ → Behind _ f s') => hB9); first | ((with_reducible refine hB9 _ _ ?_); (try dsimp only)) | (clear hB9; k_extra "Behind")))
  (k_with "BehindE" => ((rename (∀ e s', _ → BehindE _ e s') => hB9); first | ((with_reducible refine hB9 _ _ ?_); (try dsimp only)) | (clear hB9; k_extra "BehindE")))
  (k_with "m letter" => (first | (with_reducible show wpAny _ _ _ (Behind _) (BehindE _) _) | (with_reducible show wpAny _ _ _ _ (BehindE _) _; refine Q_letter ?_; intro Q9 hQ9) | (with_reducible refine QE_letter (by passes_own) ?_; intro Q9 E9 hQ9 hE9 hP9) | (refine Q_letter ?_; intro Q9 hQ9)))
  (k_with "call ref" => (k_here; (with_reducible show wpAny _ _ (call (Value.ref 201) [Value.ref _, Value.int _ _]) _ _ _); k_dflt (refine' draw_K (vs := _) (ns := _) ?BzO11 ?FzO11 ?XzO11 ?TzO11 ?fzO11 ?kzO11 ?rzO11 ?NzO11 ?UzO11 ?WzO11 ?nezO11 ?hlzO11 ?hizO11 ?lenzO11 ?szO11 ?_; (case BzO11 => k_asm); (case FzO11 => k_asm); (case XzO11 => k_asm); (case TzO11 => k_asm); (case fzO11 => exact rfl); (case kzO11 => exact rfl); (case rzO11 => k_room); (case NzO11 => k_asm); (case UzO11 => k_updF); (case WzO11 => assumption); (case nezO11 => assumption); (case hizO11 => assumption); (case hlzO11 => exact isList_kept (as := []) (fun b o _ e => Fr.keep (by assumption) b o e) (by assumption) (List.not_mem_nil)); (case lenzO11 => assumption); (case szO11 => decide); k_whole); intro _ _ _ _ _ _ _ _ _ _; (try dsimp only)))
  (k_with "exec If" => (k_here; (with_reducible show wpAny _ _ (exec (Stmt.If (PySem.Expr.Compare (PySem.Expr.Name _ _) [CmpOp.Eq] [PySem.Expr.Constant (Const.str _) _ _] _) _ _ _) _) _ _ _); k_dflt (first | (refine' if_eqF ?FzO12 ?vzO12 ?ezO12 ?_ ?azO12 ?bzO12 ?dzO12; (case FzO12 => k_asm); (case azO12 => exact rfl); (case bzO12 => exact rfl); (case dzO12 => decide); (case vzO12 => first | exact rfl | assumption); (case ezO12 => first | with_reducible assumption | decide); k_whole) | (refine' if_eqT ?FzO12 ?vzO12 ?ezO12 ?_ ?azO12 ?bzO12 ?dzO12; (case FzO12 => k_asm); (case azO12 => exact rfl); (case bzO12 => exact rfl); (case dzO12 => decide); (case vzO12 => first | exact rfl | assumption); (case ezO12 => first | with_reducible rfl | with_reducible assumption); k_whole) | (refine' if_eqB ?FzO12 ?vzO12 ?_ ?_ ?azO12 ?bzO12 ?dzO12; (case FzO12 => k_asm); (case azO12 => exact rfl); (case bzO12 => exact rfl); (case dzO12 => decide); (case vzO12 => first | exact rfl | assumption); (all_goals k_whole)); (all_goals intro _))))
  (k_with "exec If" => (k_here; (with_reducible show wpAny _ _ (exec (Stmt.If (PySem.Expr.Compare (PySem.Expr.Name _ _) [CmpOp.In] [PySem.Expr.Tuple _ _ _] _) _ _ _) _) _ _ _); k_dflt (first | (refine' if_inT ?FzO13 ?NzO13 ?vzO13 ?lzO13 ?zzO13 ?ezO13 ?_ ?azO13 ?bzO13 ?dzO13; (case FzO13 => k_asm); (case NzO13 => k_asm); (case lzO13 => repeat constructor); (case zzO13 => decide); (case azO13 => exact rfl); (case bzO13 => exact rfl); (case dzO13 => decide); (case vzO13 => first | exact rfl | assumption); (case ezO13 => first | decide | with_reducible assumption); k_whole; intro h' tk' F' N'; (try k_sweep)) | (refine' if_inF ?FzO13 ?NzO13 ?vzO13 ?lzO13 ?zzO13 ?ezO13 ?_ ?azO13 ?bzO13 ?dzO13; (case FzO13 => k_asm); (case NzO13 => k_asm); (case lzO13 => repeat constructor); (case zzO13 => decide); (case azO13 => exact rfl); (case bzO13 => exact rfl); (case dzO13 => decide); (case vzO13 => first | exact rfl | assumption); (case ezO13 => first | with_reducible assumption | decide | (simp only [List.mem_cons, List.not_mem_nil, or_false, not_or]; refine ⟨?_, ?_⟩ <;> with_reducible assumption) | (simp only [List.mem_cons, List.not_mem_nil, or_false, not_or]; refine ⟨?_, ?_, ?_⟩ <;> with_reducible assumption)); k_whole; intro h' tk' F' N'; (try k_sweep)) | (refine' if_inB ?FzO13 ?NzO13 ?vzO13 ?lzO13 ?zzO13 ?_ ?azO13 ?bzO13 ?dzO13; (case FzO13 => k_asm); (case NzO13 => k_asm); (case lzO13 => repeat constructor); (case zzO13 => decide); (case azO13 => exact rfl); (case bzO13 => exact rfl); (case dzO13 => decide); (case vzO13 => first | exact rfl | assumption); k_whole; intro _ _ _ _; (try k_sweep); refine ⟨?_, ?_⟩ <;> intro _))))
  (k_with "eval IfExp" => (k_here; (with_reducible show wpAny _ _ (eval (PySem.Expr.IfExp _ _ _ _) _) _ _ _); refine Held.out ?_))
  (k_with "m k_lt" => (intro hlt9; replace hlt9 := allLt_of hlt9; dsimp only [AllLt] at hlt9; revert hlt9))
  (k_with "m k_ne" => ((refine neN ?_; (try dsimp only); first | (with_reducible assumption) | (with_reducible exact Ne.symm (by assumption)) | omega)))
  (k_with "m k_room" => (((try simp only [depth_under_make, depth_under_kw, depth_in1, depth_deeper, depth_caller]); (try dsimp only [arT]); omega)))
  (k_with "m k_handed" => (assumption))
  trivial

/-- an operation made of new tuples: it stands beside whatever stood before -/
noncomputable def OpNew (h h' : Heap) (v : Value) (op : Op) : Prop := ∀ Z : List Addr, (∀ a ∈ Z, ∃ o, h.get? a = some o) → OpIn (hideAll h' Z) v op
theorem opNew_of {h g h' : Heap} {W a b : Addr} {op : Op} {t : Tok} {n k : Nat} {vs : List Value} (hg : ∀ c o, c ∉ [W] → h.get? c = some o → g.get? c = some o) (e1 : h'.get? a = some (tupOb [.str op.name t, .ref b] n)) (g1 : g.get? a = none) (e2 : h'.get? b = some (tupOb vs k)) (g2 : g.get? b = none)
    (hW : ∃ xs j, h'.get? W = some (listOf xs j)) (hi : IntsAre vs op.args) : OpNew h h' (.ref a) op := fun Z hZ => by
  obtain ⟨xs, j, eW⟩ := hW
  have key : ∀ c, g.get? c = none → (∃ us m, h'.get? c = some (tupOb us m)) → c ∉ Z := fun c gc ⟨us, m, ec⟩ hc => by
    obtain ⟨o, e⟩ := hZ c hc
    have hcW : c ∉ [W] := fun q => list_notTup (List.mem_singleton.mp q ▸ eW) _ _ ec
    rw [hg c o hcW e] at gc; cases gc
  exact ⟨a, b, t, n, k, vs, rfl, hideAll_get _ e1 (key a g1 ⟨_, _, e1⟩), hideAll_get _ e2 (key b g2 ⟨_, _, e2⟩), hi⟩
theorem opNew_leaf {R : Prop} {h g h' : Heap} {W a b : Addr} {nm : Str} {t : Tok} {n k : Nat} {vs : List Value} {as : List Int} (hg : ∀ c o, c ∉ [W] → h.get? c = some o → g.get? c = some o) (e1 : h'.get? a = some (tupOb [.str nm t, .ref b] n)) (g1 : g.get? a = none) (e2 : h'.get? b = some (tupOb vs k)) (g2 : g.get? b = none)
    (hW : ∃ xs j, h'.get? W = some (listOf xs j)) (hi : IntsAre vs as) (x : ∃ op : Op, op.ok ∧ op.name = nm ∧ op.args = as) (c : ∀ op : Op, op.ok → op.name = nm → OpNew h h' (.ref a) op → R) : R := by
  obtain ⟨op, o1, o2, o3⟩ := x
  subst o2
  subst o3
  exact c op o1 rfl (opNew_of hg e1 g1 e2 g2 hW hi)
theorem WellOb.isList {D : Addr} {o : Obj} (h : WellOb D o) : ∃ xs j, o = listOf xs j := by
  refine letter fun Qg hg => ?_
  obtain ⟨p, x, t1, t2, n, _, _, _, rfl⟩ := h
  refine hg ?_
  clear hg
  exact ⟨_, _, rfl⟩

theorem wellAt {D W : Addr} {h : Heap} {o : Obj} (e : h.get? W = some o) (hw : WellOb D o) : ∃ xs j, h.get? W = some (listOf xs j) := by
  obtain ⟨xs, j, rfl⟩ := hw.isList
  exact ⟨xs, j, e⟩
theorem mem2 {nm : Str} (h : nm ∈ [Str.ofString "register", Str.ofString "def_cfa"]) (m c : Int) (hm : 0 ≤ m ∧ m < 4) : ∃ op : Op, op.ok ∧ op.name = nm ∧ op.args = [m, c] := by
  simp only [List.mem_cons, List.not_mem_nil, or_false] at h
  rcases h with rfl | rfl
  · exact ⟨.reg m c, hm, rfl, rfl⟩
  · exact ⟨.cfa m c, trivial, rfl, rfl⟩
theorem mem0 {nm : Str} (h : nm ∈ [Str.ofString "nop", Str.ofString "remember_state", Str.ofString "restore_state"]) : ∃ op : Op, op.ok ∧ op.name = nm ∧ op.args = [] := by
  simp only [List.mem_cons, List.not_mem_nil, or_false] at h
  rcases h with rfl | rfl | rfl
  · exact ⟨.nop, trivial, rfl, rfl⟩
  · exact ⟨.remember, trivial, rfl, rfl⟩
  · exact ⟨.back, trivial, rfl, rfl⟩
theorem mem1 {nm : Str} (h : nm ∈ [Str.ofString "restore", Str.ofString "undefined", Str.ofString "same_value", Str.ofString "def_cfa_register"]) (m : Int) (hm : 0 ≤ m ∧ m < 4) : ∃ op : Op, op.ok ∧ op.name = nm ∧ op.args = [m] := by
  simp only [List.mem_cons, List.not_mem_nil, or_false] at h
  rcases h with rfl | rfl | rfl | rfl
  · exact ⟨.restore m, hm, rfl, rfl⟩
  · exact ⟨.undef m, hm, rfl, rfl⟩
  · exact ⟨.same m, hm, rfl, rfl⟩
  · exact ⟨.cfaReg m, trivial, rfl, rfl⟩
theorem mem3 {nm : Str} (h : nm ∈ opNames) (h0 : nm ∉ [Str.ofString "nop", Str.ofString "remember_state", Str.ofString "restore_state"]) (h1 : nm ≠ Str.ofString "advance_loc") (h2 : nm ≠ Str.ofString "set_loc") (h3 : nm ∉ [Str.ofString "restore", Str.ofString "undefined", Str.ofString "same_value", Str.ofString "def_cfa_register"])
    (h4 : nm ≠ Str.ofString "def_cfa_offset") (h5 : nm ∉ [Str.ofString "register", Str.ofString "def_cfa"]) (m c : Int) (hm : 0 ≤ m ∧ m < 4) : ∃ op : Op, op.ok ∧ op.name = nm ∧ op.args = [m, c] := by
  have h6 : nm ∈ [Str.ofString "offset", Str.ofString "offset_extended", Str.ofString "val_offset"] := by
    refine (fun k : ∀ nm ∈ opNames, nm ∈ [Str.ofString "nop", Str.ofString "remember_state", Str.ofString "restore_state"] ∨ nm = Str.ofString "advance_loc" ∨ nm = Str.ofString "set_loc" ∨ nm ∈ [Str.ofString "restore", Str.ofString "undefined", Str.ofString "same_value", Str.ofString "def_cfa_register"] ∨ nm = Str.ofString "def_cfa_offset" ∨ nm ∈ [Str.ofString "register", Str.ofString "def_cfa"] ∨ nm ∈ [Str.ofString "offset", Str.ofString "offset_extended", Str.ofString "val_offset"] => ?_) (by decide)
    exact (((((k nm h).resolve_left h0).resolve_left h1).resolve_left h2).resolve_left h3).resolve_left h4 |>.resolve_left h5
  simp only [List.mem_cons, List.not_mem_nil, or_false] at h6
  rcases h6 with rfl | rfl | rfl
  · exact ⟨.offset m c, hm, rfl, rfl⟩
  · exact ⟨.offsetX m c, hm, rfl, rfl⟩
  · exact ⟨.valOff m c, hm, rfl, rfl⟩
set_option maxHeartbeats 16000000 in
theorem op_K {w : World} {loose : List Str} {mean : ExcName → Option Value} {mg mb : Str → Option Value} {A₀ : Around} {dp un : Nat} {gd : Option (List Code)} {env : Env} {outer : List Env} {base h₀ : Heap} {L : Addr} {m : Str → Option Value} {s : Shared} {Q E : Value → Shared → Prop}
    {W Nn : Addr} {o : Obj} {vs : List Value} {ns : List Int} {low : Int} {nm : Str} {t2 t3 : Tok}
    (B : Below A₀ base outer h₀) (F : Fr h₀ L s.heap m) (X : (hd.heap_1 w.params).In h₀) (T : Top topProg loose mean mg mb h₀)
    (hf : env.frame = some L) (hk : env.scope.kind = .function) (hroom : dp + 4 < recursionLimit)
    (N : News h₀ L s.heap [(W, o)]) (hw : WellOb Nn o)
    (hWN : Nn ≠ W) (hl : s.heap.IsList Nn vs.toArray) (hi : IntsAre vs ns) (hlen : ns.length ≤ 63)
    (hnm : nm ∈ opNames)
    (hq : ∀ v op h' tk' o', op.ok → op.name = nm → Kept [W] s.heap h' → h'.get? W = some o' → WellOb Nn o' → OpNew s.heap h' v op → Q v { s with heap := h', toks := tk' }) :
    wpAny (model PySem.Challenge.rw_on0310_01.row.prog w) (arT dp un gd env outer) (call (.ref 208) [.ref W, .str nm t2, .int low t3]) Q E s := by
  revert X; k_fill; intro X
  k_dflt (refine' enter2 (binds := [(Str.ofString "well", .ref W), (Str.ofString "name", .str nm t2), (Str.ofString "low_at", .int low t3)]) B F X T N rfl hf hk ?k6 ?k7 ?k8 ?k9 ?kB ?_ ?c2 ?c3 ?c4 ?c5; (case k6 => k_is); (case k7 => k_is); (case k8 => show dp < _; omega); (case k9 => exact BindsTo.of_eq rfl); (case c5 => decide); (case kB => exact locs rfl); (case c2 => exact rfl); (case c3 => exact rfl); (case c4 => exact rfl); k_whole; intro g L' h' tk0 QQ EE hg hk₁ hL' F' N' B' X' T' hR hNx hEx hPo; (try dsimp only); (try k_fold))

  have hl' : g.IsList Nn vs.toArray := isList_into hg hl (by simp [hWN])
  clear hl hk₁
  ((try k_extra "m letter"); w_strict k_steps)
  rotate_left 5
  unfold Held
  (with_reducible rename Fr _ _ _ _ => kF0)
  (with_reducible rename News _ _ _ _ => kN0)
  refine IfExp_ (test_in (bs := [Str.ofString "register", Str.ofString "def_cfa"]) kF0 kN0 rfl (by repeat constructor) (by decide) fun h6 tk6 F6 N6 => ?_)
  clear kF0 kN0
  rcases Decidable.em (nm ∈ [Str.ofString "register", Str.ofString "def_cfa"]) with h9 | h9
  all_goals (try ((first | rw [decide_eq_true h9, if_pos rfl] | rw [decide_eq_false h9, if_neg (by decide)]); w_strict k_steps))
  all_goals (
    (try dsimp only)
    (with_reducible rename Fr _ _ _ _ => kF)
    (with_reducible rename News _ _ _ _ => kN)
    have eW := (kN (W, _) (by k_mem)).1
    dsimp only at eW
    refine opNew_leaf (nm := nm) hg (kN _ (.head _)).1 (kN _ (.head _)).2.2 (kN _ (.tail _ (.head _))).1 (kN _ (.tail _ (.head _))).2.2 (wellAt eW (by assumption)) (by repeat constructor) ?_ fun op o1 o2 o3 => hR _ _ (hq _ op _ _ _ o1 o2 (kept_of hg kF) eW (by assumption) o3)
    first
    | exact mem2 (by assumption) _ _ ⟨by assumption, by assumption⟩
    | exact mem3 hnm (by assumption) (by assumption) (by assumption) (by assumption) (by assumption) (by assumption) _ _ ⟨by assumption, by assumption⟩
    | exact mem0 (by assumption)
    | exact mem1 (by assumption) _ ⟨by assumption, by assumption⟩
    | exact ⟨.adv _, trivial, Eq.symm (by assumption), rfl⟩
    | exact ⟨.loc _, trivial, Eq.symm (by assumption), rfl⟩
    | exact ⟨.cfaOff _, trivial, Eq.symm (by assumption), rfl⟩)

/-- an operation, on a ledger -/
theorem op_L {w : World} {loose : List Str} {mean : ExcName → Option Value} {mg mb : Str → Option Value} {A₀ : Around} {dp un : Nat} {gd : Option (List Code)} {env : Env} {outer : List Env} {base h₀ : Heap} {L : Addr} {m : Str → Option Value} {s : Shared} {Q E : Value → Shared → Prop}
    {W Nn : Addr} {o : Obj} {vs : List Value} {ns : List Int} {low : Int} {nm : Str} {t2 t3 : Tok} {news : List (Addr × Obj)} {gn : Obj → List (Addr × Obj)}
    (B : Below A₀ base outer h₀) (F : Fr h₀ L s.heap m) (X : (hd.heap_1 w.params).In h₀) (T : Top topProg loose mean mg mb h₀)
    (hf : env.frame = some L) (hk : env.scope.kind = .function) (hroom : dp + 4 < recursionLimit)
    (N : News h₀ L s.heap news) (U : UpdF W o news gn) (hw : WellOb Nn o)
    (hWN : Nn ≠ W) (hl : s.heap.IsList Nn vs.toArray) (hi : IntsAre vs ns) (hlen : ns.length ≤ 63)
    (hnm : nm ∈ opNames)
    (hq : ∀ v op h' tk' o', op.ok → op.name = nm → Kept [W] s.heap h' → Fr h₀ L h' m → News h₀ L h' (gn o') → WellOb Nn o' → OpNew s.heap h' v op → Q v { s with heap := h', toks := tk' }) :
    wpAny (model PySem.Challenge.rw_on0310_01.row.prog w) (arT dp un gd env outer) (call (.ref 208) [.ref W, .str nm t2, .int low t3]) Q E s :=
  op_K B F X T hf hk hroom (UpdF.one N U) hw hWN hl hi hlen hnm fun v op h' tk' o' h1 h2 k ho hw' hn =>
    let q := News.upd F N U k ho
    hq v op h' tk' o' h1 h2 k q.1 q.2 hw' hn
theorem News.afterK {g h h' : Heap} {L : Addr} {news : List (Addr × Obj)} {wr : List Addr} (N : News g L h news) (k : Kept wr h h') (hn : ∀ p ∈ news, p.1 ∉ wr) : News g L h' news := fun p hp => ⟨k _ _ (hn p hp) (N p hp).1, (N p hp).2⟩
theorem News.keepsUp {g h h' : Heap} {L : Addr} {news : List (Addr × Obj)} (N : News g L h news) (k : Up h h') : News g L h' news := fun p hp => ⟨k _ _ (N p hp).1, (N p hp).2⟩
/-- what the law owns by name: the cells, the well, the functions' list -/
noncomputable abbrev led0 (L lF lW D : Addr) (fl wl od o5 o4 o3 o2 o1 tab : Obj) : List (Addr × Obj) :=
  [(lF, fl), (lW, wl), (D, od), (L + 1 + 1 + 1 + 1 + 1, o5), (L + 1 + 1 + 1 + 1, o4), (L + 1 + 1 + 1, o3), (L + 1 + 1, o2), (L + 1, o1), (248, tab)]
noncomputable def ledZ (L lF lW D : Addr) : List Addr := [lF, lW, D, L + 1 + 1 + 1 + 1 + 1, L + 1 + 1 + 1 + 1, L + 1 + 1 + 1, L + 1 + 1, L + 1, 248]
structure FOk (f : FDE) : Prop where
  heads : ∀ op ∈ f.heads, op.head ∧ op.ok
  ops : ∀ op ∈ f.ops, op.ok
  nh : f.heads.length ≤ 50
  no : f.ops.length ≤ 50
theorem ledZ_mem {L lF lW D a : Addr} {fl wl od o5 o4 o3 o2 o1 tab : Obj} (ha : a ∈ ledZ L lF lW D) : ∃ o, (a, o) ∈ led0 L lF lW D fl wl od o5 o4 o3 o2 o1 tab := by
  simp only [ledZ, List.mem_cons, List.not_mem_nil, or_false] at ha
  rcases ha with rfl | rfl | rfl | rfl | rfl | rfl | rfl | rfl | rfl
  · exact ⟨_, .head _⟩
  · exact ⟨_, .tail _ (.head _)⟩
  · exact ⟨_, .tail _ (.tail _ (.head _))⟩
  · exact ⟨_, .tail _ (.tail _ (.tail _ (.head _)))⟩
  · exact ⟨_, .tail _ (.tail _ (.tail _ (.tail _ (.head _))))⟩
  · exact ⟨_, .tail _ (.tail _ (.tail _ (.tail _ (.tail _ (.head _)))))⟩
  · exact ⟨_, .tail _ (.tail _ (.tail _ (.tail _ (.tail _ (.tail _ (.head _))))))⟩
  · exact ⟨_, .tail _ (.tail _ (.tail _ (.tail _ (.tail _ (.tail _ (.tail _ (.head _)))))))⟩
  · exact ⟨_, .tail _ (.tail _ (.tail _ (.tail _ (.tail _ (.tail _ (.tail _ (.tail _ (.head _))))))))⟩
theorem ledZ_of {L lF lW D : Addr} {fl wl od o5 o4 o3 o2 o1 tab : Obj} {p : Addr × Obj} (hp : p ∈ led0 L lF lW D fl wl od o5 o4 o3 o2 o1 tab) : p.1 ∈ ledZ L lF lW D := by
  simp only [led0, List.mem_cons, List.not_mem_nil, or_false] at hp
  simp only [ledZ, List.mem_cons, List.not_mem_nil, or_false]
  rcases hp with rfl | rfl | rfl | rfl | rfl | rfl | rfl | rfl | rfl <;> simp
theorem Kept.up {as : List Addr} {h h' h'' : Heap} (k : Kept as h h') (u : Up h' h'') : Kept as h h'' := fun b o hb e => u _ _ (k b o hb e)
section
variable {prog : Program} {w : World} {A : Around} {env : Env} {target : Expr} {body : List Stmt} {Q : Flow → Shared → Prop} {E : Value → Shared → Prop} {s : Shared}
/-- a loop over a range: one new iterator -/
theorem range_R {r : Addr} {a₀ b₀ : Int} {t₀ u₀ v₀ : Tok} {n : Nat} (hh : A.handled = none) (hr : IsRange s.heap r a₀ b₀ 1 t₀ u₀ v₀) (hsmall : Builtin.Range.small a₀ b₀ 1 = true) (hn : Builtin.Range.rangeSize a₀ b₀ 1 = (n : Int))
    (hgo : ∀ I i v (s : Shared) (Q : Unit → Shared → Prop) (E : Value → Shared → Prop), IsRangeIter s.heap I (a₀ + (i : Nat) * 1) ((n : Int) - (i : Nat)) 1 → Q () s → wpAny (model prog w) A (letOwnedTupleGo target (.ref I) v) Q E s)
    (H : ∀ I h', s.heap.get? I = none → Up s.heap h' → (∃ o, h'.get? I = some o) → ∃ J : Nat → Heap → Prop, J 0 h' ∧ (∀ i h h', J i h → Kept [I] h h' → J i h') ∧
      (∀ i t h tk (KK : Flow → Shared → Prop), i < n → J i h → (∃ o, h.get? I = some o) → (∀ h' tk', J (i + 1) h' → (∀ o, h.get? I = some o → h'.get? I = some o) → KK .next { s with heap := h', toks := tk' } ∧ KK .cont { s with heap := h', toks := tk' }) → (∀ v s', Q (.ret v) s' → KK (.ret v) s') →
        wpAny (model prog w) A (assign target env (.int (a₀ + i) t)) (fun _ s₃ => wpAny (model prog w) A (execs body env) KK E s₃) E { s with heap := h, toks := tk }) ∧
      ∀ h h' tk, J n h → Kept [I] h h' → Q .next { s with heap := h', toks := tk }) :
    wpAny (model prog w) A (pyIter (.ref r)) (fun it s₂ => AtH prog w A env target body Q E it s₂) E s := by
  refine wpAny_pyIter_range hr hsmall ?_
  have T := KTurns.ofWalks (target := target) (Walks.range (prog := prog) (w := w) hh s.heap.objs.size a₀ 1 n) fun i v s Q E st q => hgo _ i v s Q E st q
  have hI : IsRangeIter (s.heap.push { cls := .type "range_iterator", data := .fields #[rawInt a₀, rawInt (Builtin.Range.rangeSize a₀ b₀ 1), rawInt 1] }) s.heap.objs.size a₀ (Builtin.Range.rangeSize a₀ b₀ 1) 1 := Heap.get?_push_size _ rfl
  have one : ∀ (h : Heap), (∃ o, h.get? s.heap.objs.size = some o) → ∀ b ∈ [s.heap.objs.size], ∃ o, h.get? b = some o := fun h e b hb => by rw [List.mem_singleton.mp hb]; exact e
  obtain ⟨J, h0, stab, step, done⟩ := H s.heap.objs.size _ (none_of_le (Nat.le_refl _)) (fun b o e => Heap.get?_push_of_some _ e) ⟨_, hI⟩
  refine ⟨_, _, _, _, _, _, _, J, (fun h => ∃ o, h.get? s.heap.objs.size = some o), rfl, T, by rw [hn] at hI ⊢; simpa using hI, h0, fun i h st => ⟨_, st⟩, fun i h h' a _ k _ => stab i h h' a k, ?_, done⟩
  rintro i v h tk hi ⟨t, rfl⟩ hJ hst
  have e : a₀ + (i : Int) * 1 = a₀ + i := by omega
  rw [e]
  exact step i t h tk (StepH [s.heap.objs.size] (J (i + 1)) h s Q) hi hJ ⟨_, hst⟩ (fun h' tk' hJ' hf => ⟨⟨h', tk', rfl, hJ', fun b hb o e => by rw [List.mem_singleton.mp hb] at e ⊢; exact hf o e⟩, ⟨h', tk', rfl, hJ', fun b hb o e => by rw [List.mem_singleton.mp hb] at e ⊢; exact hf o e⟩⟩) (fun _ _ q => q)
/-- the same, from 0 on, over a name -/
theorem range_Z {x : Str} {px : Pos} {r : Addr} {b₀ : Int} {t₀ u₀ v₀ : Tok} (hh : A.handled = none) (hr : IsRange s.heap r 0 b₀ 1 t₀ u₀ v₀) (hb0 : 0 ≤ b₀) (hb1 : b₀ ≤ 1000)
    (H : ∀ I h', s.heap.get? I = none → Up s.heap h' → (∃ o, h'.get? I = some o) → ∃ J : Nat → Heap → Prop, J 0 h' ∧ (∀ i h h', J i h → Kept [I] h h' → J i h') ∧
      (∀ i t h tk (KK : Flow → Shared → Prop), i < b₀.toNat → J i h → (∃ o, h.get? I = some o) → (∀ h' tk', J (i + 1) h' → (∀ o, h.get? I = some o → h'.get? I = some o) → KK .next { s with heap := h', toks := tk' } ∧ KK .cont { s with heap := h', toks := tk' }) → (∀ v s', Q (.ret v) s' → KK (.ret v) s') →
        wpAny (model prog w) A (assign (.Name x px) env (.int (0 + i) t)) (fun _ s₃ => wpAny (model prog w) A (execs body env) KK E s₃) E { s with heap := h, toks := tk }) ∧
      ∀ h h' tk, J b₀.toNat h → Kept [I] h h' → Q .next { s with heap := h', toks := tk }) :
    wpAny (model prog w) A (pyIter (.ref r)) (fun it s₂ => AtH prog w A env (.Name x px) body Q E it s₂) E s :=
  range_R hh hr (small_one (by decide) (by decide) (by omega) (by omega)) (by rw [rangeSize_one]; split <;> omega) (fun I i v s Q E st q => by show wpAny _ _ (pure ()) _ _ _; exact wpAny_pure q) H
end
/-- how the loop that builds the functions stands -/
inductive JF (g : Heap) (L lF lW D : Addr) (od o5 o4 o3 o1 : Obj) (wr : List Addr) (i : Nat) (h : Heap) : Prop
  | mk (m : Str → Option Value) (fvs : List Value) (n : Nat) (oW o2 : Obj) (x2 : Option Value) (fs : List FDE) : Fr g L h m → News g L h (led0 L lF lW D (listOf (List.toArray fvs) n) oW od o5 o4 o3 o2 o1 (tabObj #[])) → WellOb D oW → (o2.data = .cell x2) → All2 (FdeAt (hideAll h (L :: ledZ L lF lW D ++ wr))) fvs fs → (∀ f ∈ fs, FOk f) → (fs.length = i) → ((i = 0 ∨ ∃ v, m (Str.ofString "size") = some v)) → JF g L lF lW D od o5 o4 o3 o1 wr i h
/-- the functions are built -/
inductive JB (s : Shared) (g : Heap) (L lF lW D : Addr) (od o5 o4 o3 o1 : Obj) (s' : Shared) : Prop
  | mk (h tk i : _) : (s' = { s with heap := h, toks := tk }) → 1 ≤ i → i ≤ 3 → JF g L lF lW D od o5 o4 o3 o1 [] i h → JB s g L lF lW D od o5 o4 o3 o1 s'
theorem JF.after {g h h' : Heap} {L lF lW D : Addr} {od o5 o4 o3 o1 : Obj} {wr : List Addr} {i : Nat} (J : JF g L lF lW D od o5 o4 o3 o1 wr i h) (k : Kept wr h h') (gwr : ∀ b ∈ wr, b ≠ L ∧ g.get? b = none) (hn : ∀ a ∈ ledZ L lF lW D, a ∉ wr) : JF g L lF lW D od o5 o4 o3 o1 wr i h' := by
  obtain ⟨m, fvs, n, oW, o2, x2, fs, F, N, hW, d2, A, ok, hl, hz⟩ := J
  refine ⟨m, fvs, n, oW, o2, x2, fs, Fr.after F k gwr, News.afterK N k (fun p hp => hn _ ?_), hW, d2, fdes_up (hide_step k (fun a ha => List.mem_append_right _ ha) (fun a ha => .inl ha)) A, ok, hl, hz⟩
  simp only [led0, List.mem_cons, List.not_mem_nil, or_false] at hp
  simp only [ledZ, List.mem_cons, List.not_mem_nil, or_false]
  rcases hp with rfl | rfl | rfl | rfl | rfl | rfl | rfl | rfl | rfl <;> simp
theorem JF.done {g h h' : Heap} {L lF lW D : Addr} {od o5 o4 o3 o1 : Obj} {wr : List Addr} {i : Nat} (J : JF g L lF lW D od o5 o4 o3 o1 wr i h) (k : Kept wr h h') (gwr : ∀ b ∈ wr, b ≠ L ∧ g.get? b = none) (hn : ∀ a ∈ ledZ L lF lW D, a ∉ wr) : JF g L lF lW D od o5 o4 o3 o1 [] i h' := by
  obtain ⟨m, fvs, n, oW, o2, x2, fs, F, N, hW, d2, A, ok, hl, hz⟩ := J.after k gwr hn
  exact ⟨m, fvs, n, oW, o2, x2, fs, F, N, hW, d2, fdes_up (hide_step (Kept.refl _ _) (fun a ha => ha) (fun a ha => .inl (List.mem_append_left wr (by rwa [List.append_nil] at ha)))) A, ok, hl, hz⟩
/-- a turn's list of heads -/
inductive JH (g h₁ : Heap) (L lF lW D : Addr) (fl od o5 o4 o3 o2 o1 : Obj) (H : Addr) (size : Int) (ex : List Addr) (k : Nat) (h : Heap) : Prop
  | mk (m : Str → Option Value) (hvs : List Value) (hn : Nat) (oW : Obj) (heads : List Op) (t2 : Tok) : Fr g L h m → ((m (Str.ofString "size") = some (.int size t2) ∧ m (Str.ofString "heads") = some (.ref H))) → News g L h (led0 L lF lW D fl oW od o5 o4 o3 o2 o1 (tabObj #[])) → (h.get? H = some (listOf (List.toArray hvs) hn)) → WellOb D oW → All2 (OpIn (hideAll h (L :: ledZ L lF lW D ++ H :: ex))) hvs heads → (∀ op ∈ heads, op.head ∧ op.ok) → heads.length ≤ k → Kept (L :: ledZ L lF lW D) h₁ h → JH g h₁ L lF lW D fl od o5 o4 o3 o2 o1 H size ex k h
inductive JM (s : Shared) (g h₁ : Heap) (L lF lW D : Addr) (fl od o5 o4 o3 o1 : Obj) (I : Addr) (kk : Nat) (s' : Shared) : Prop
  | mk (h tk H o2 size low tl : _) : (s' = { s with heap := h, toks := tk }) → ((H ≠ L ∧ g.get? H = none ∧ H ∉ ledZ L lF lW D ∧ h₁.get? H = none)) → (o2.data = .cell (some (.int low tl))) → JH g h₁ L lF lW D fl od o5 o4 o3 o2 o1 H size [I] kk h → JM s g h₁ L lF lW D fl od o5 o4 o3 o1 I kk s'
theorem above_led {L lF lW D X : Addr} (h : @LT.lt Nat _ lF X ∧ @LT.lt Nat _ lW X ∧ @LT.lt Nat _ D X ∧ @LT.lt Nat _ (L + 1 + 1 + 1 + 1 + 1) X ∧ @LT.lt Nat _ 248 X) : X ∉ ledZ L lF lW D := fun ha => by
  simp only [ledZ, List.mem_cons, List.not_mem_nil, or_false] at ha
  obtain ⟨h1, h2, h3, h4, h5⟩ := h
  have : ∀ a b : Nat, a < b → b = a → False := fun a b p q => by omega
  rcases ha with q | q | q | q | q | q | q | q | q
  · exact this _ _ h1 q
  · exact this _ _ h2 q
  · exact this _ _ h3 q
  · exact this _ _ h4 q
  · exact this _ _ (Nat.lt_trans (Nat.lt_succ_self _) h4) q
  · exact this _ _ (Nat.lt_trans (Nat.lt_succ_self _) (Nat.lt_trans (Nat.lt_succ_self _) h4)) q
  · exact this _ _ (Nat.lt_trans (Nat.lt_succ_self _) (Nat.lt_trans (Nat.lt_succ_self _) (Nat.lt_trans (Nat.lt_succ_self _) h4))) q
  · exact this _ _ (Nat.lt_trans (Nat.lt_succ_self _) (Nat.lt_trans (Nat.lt_succ_self _) (Nat.lt_trans (Nat.lt_succ_self _) (Nat.lt_trans (Nat.lt_succ_self _) h4)))) q
  · exact this _ _ h5 q
section
variable {L H C DD I I2 a : Addr} {Zs ex wr : List Addr}
theorem sub_ins : ∀ a ∈ L :: H :: Zs, a ∈ L :: Zs ++ H :: ex := fun a ha => by
  simp only [List.mem_cons, List.mem_append] at ha ⊢
  rcases ha with q | q | q
  · exact .inl (.inl q)
  · exact .inr (.inl q)
  · exact .inl (.inr q)
theorem sub_new {h : Heap} (hn : h.get? I2 = none) : ∀ a ∈ L :: Zs ++ H :: [I2, I], a ∈ L :: Zs ++ H :: [I] ∨ h.get? a = none := fun a ha => by
  simp only [List.mem_cons, List.mem_append, List.not_mem_nil, or_false] at ha ⊢
  rcases ha with q | q | q | q
  · exact .inl (.inl q)
  · exact .inl (.inr (.inl q))
  · exact .inr (q ▸ hn)
  · exact .inl (.inr (.inr q))
theorem sub_mid (ha : a ∈ L :: Zs ++ H :: [I]) : a ∈ L :: Zs ++ H :: [I2, I] := by
  simp only [List.mem_cons, List.mem_append, List.not_mem_nil, or_false] at ha ⊢
  rcases ha with q | q | q
  · exact .inl q
  · exact .inr (.inl q)
  · exact .inr (.inr (.inr q))
theorem sub_CL : ∀ a ∈ C :: L :: H :: Zs, a ∈ L :: Zs ++ I :: H :: C :: DD :: wr := fun a ha => by
  simp only [List.mem_cons, List.mem_append] at ha ⊢
  rcases ha with q | q | q | q
  · exact .inr (.inr (.inr (.inl q)))
  · exact .inl (.inl q)
  · exact .inr (.inr (.inl q))
  · exact .inl (.inr q)
theorem sub_LC : ∀ a ∈ L :: C :: wr, a ∈ L :: Zs ++ I :: H :: C :: DD :: wr := fun a ha => by
  simp only [List.mem_cons, List.mem_append] at ha ⊢
  rcases ha with q | q | q
  · exact .inl (.inl q)
  · exact .inr (.inr (.inr (.inl q)))
  · exact .inr (.inr (.inr (.inr (.inr q))))
theorem sub_I1 (ha : a ∈ L :: Zs ++ [I]) : a ∈ L :: Zs ++ [H, I] := by
  simp only [List.mem_cons, List.mem_append, List.not_mem_nil, or_false] at ha ⊢
  rcases ha with q | q
  · exact .inl q
  · exact .inr (.inr q)
theorem sub_I2 (ha : a ∈ L :: Zs ++ [I]) : a ∈ L :: Zs ++ I :: ex := by
  simp only [List.mem_cons, List.mem_append, List.not_mem_nil, or_false] at ha ⊢
  rcases ha with q | q
  · exact .inl q
  · exact .inr (.inl q)
end
theorem menu_ops {nm : Str} (h : nm ∈ [Str.ofString "offset", Str.ofString "register", Str.ofString "same_value", Str.ofString "val_offset"]) : nm ∈ opNames := by
  simp only [List.mem_cons, List.not_mem_nil, or_false] at h
  rcases h with rfl | rfl | rfl | rfl <;> decide
theorem above_trans {L lF lW D d X : Addr} (h : @LT.lt Nat _ lF d ∧ @LT.lt Nat _ lW d ∧ @LT.lt Nat _ D d ∧ @LT.lt Nat _ (L + 1 + 1 + 1 + 1 + 1) d ∧ @LT.lt Nat _ 248 d) (q : @LT.lt Nat _ d X) : X ∉ ledZ L lF lW D :=
  above_led ⟨Nat.lt_trans h.1 q, Nat.lt_trans h.2.1 q, Nat.lt_trans h.2.2.1 q, Nat.lt_trans h.2.2.2.1 q, Nat.lt_trans h.2.2.2.2 q⟩
theorem ledZ_ne {L lF lW D H : Addr} (h : H ∉ ledZ L lF lW D) : @Ne Nat H lF ∧ @Ne Nat H lW ∧ @Ne Nat H D ∧ @Ne Nat H (L + 1 + 1 + 1 + 1 + 1) ∧ @Ne Nat H (L + 1 + 1 + 1 + 1) ∧ @Ne Nat H (L + 1 + 1 + 1) ∧ @Ne Nat H (L + 1 + 1) ∧ @Ne Nat H (L + 1) ∧ @Ne Nat H 248 := by
  simpa only [ledZ, List.mem_cons, List.not_mem_nil, or_false, not_or] using h
theorem off_led {h : Heap} {L lF lW D H X : Addr} {ex : List Addr} (nL : X ≠ L) (hZ : X ∉ ledZ L lF lW D) (hH : X ≠ H) (hn : h.get? X = none) (he : ∀ a ∈ ex, ∃ o, h.get? a = some o) : X ∉ L :: ledZ L lF lW D ++ H :: ex := fun q => by
  rcases List.mem_append.mp q with q | q
  · rcases List.mem_cons.mp q with q | q
    · exact nL q
    · exact hZ q
  · rcases List.mem_cons.mp q with q | q
    · exact hH q
    · obtain ⟨o, e⟩ := he X q
      rw [hn] at e; cases e
section
variable {prog : Program} {w : World} {A : Around} {E : Value → Shared → Prop} {s : Shared} {T : Addr} {vs : List Value} {value slice : PySem.Expr} {u : Tok} {k : Int}
/-- one of a tuple's texts -/
theorem tup_menu {names : List Str} {Q : Value → Shared → Prop} (ht : IsTup s.heap T vs.toArray) (h0 : 0 ≤ k) (h1 : k < vs.length) (hl : vs.length ≤ 100) (hall : ∀ v ∈ vs, ∃ nm t, v = .str nm t ∧ nm ∈ names) (h : ∀ nm t, nm ∈ names → Q (.str nm t) s)
    (hs : subscripted slice false (.ref T) (.int k u) = operate [.ref T, .int k u] (getItem (.ref T) (.int k u))) (hg : ∀ r, letTemporaryGo value (.ref T) r = pure ()) :
    wpAny (model prog w) A (subscriptTail value slice (.ref T) (.int k u)) Q E s := by
  have hlt : k.toNat < vs.length := by omega
  obtain ⟨nm, t, e, hn⟩ := hall _ (List.getElem_mem hlt)
  refine item_tupleL ht (by omega) (by omega) (j := k.toNat) ?_ (List.getElem?_eq_getElem hlt) (e ▸ h nm t hn) hs hg
  unfold seqIndex?
  simp only
  split <;> simp <;> omega
end
/-- the law's own objects are apart: said once -/
theorem led0_with {L lF lW D D2 : Nat} {G : Prop} (l0 : 248 < L) (a2 : D2 ≠ D ∧ L + 1 + 1 + 1 + 1 + 1 ≠ D ∧ L + 1 + 1 + 1 + 1 ≠ D ∧ L + 1 + 1 + 1 ≠ D ∧ L + 1 + 1 ≠ D ∧ L + 1 ≠ D ∧ 248 ≠ D)
    (a3 : D < lW ∧ D2 < lW ∧ L + 1 + 1 + 1 + 1 + 1 < lW) (a4 : lW < lF) (k : @Ne Nat (lF) (lW) → @Ne Nat (lF) (D) → @Ne Nat (lF) (L + 1 + 1 + 1 + 1 + 1) → @Ne Nat (lF) (L + 1 + 1 + 1 + 1) → @Ne Nat (lF) (L + 1 + 1 + 1) → @Ne Nat (lF) (L + 1 + 1) → @Ne Nat (lF) (L + 1) → @Ne Nat (lF) (248) → @Ne Nat (lW) (D) → @Ne Nat (lW) (L + 1 + 1 + 1 + 1 + 1) → @Ne Nat (lW) (L + 1 + 1 + 1 + 1) → @Ne Nat (lW) (L + 1 + 1 + 1) → @Ne Nat (lW) (L + 1 + 1) → @Ne Nat (lW) (L + 1) → @Ne Nat (lW) (248) → @Ne Nat (D) (L + 1 + 1 + 1 + 1 + 1) → @Ne Nat (D) (L + 1 + 1 + 1 + 1) → @Ne Nat (D) (L + 1 + 1 + 1) → @Ne Nat (D) (L + 1 + 1) → @Ne Nat (D) (L + 1) → @Ne Nat (D) (248) → @Ne Nat (L + 1 + 1 + 1 + 1 + 1) (L + 1 + 1 + 1 + 1) → @Ne Nat (L + 1 + 1 + 1 + 1 + 1) (L + 1 + 1 + 1) → @Ne Nat (L + 1 + 1 + 1 + 1 + 1) (L + 1 + 1) → @Ne Nat (L + 1 + 1 + 1 + 1 + 1) (L + 1) → @Ne Nat (L + 1 + 1 + 1 + 1 + 1) (248) → @Ne Nat (L + 1 + 1 + 1 + 1) (L + 1 + 1 + 1) → @Ne Nat (L + 1 + 1 + 1 + 1) (L + 1 + 1) → @Ne Nat (L + 1 + 1 + 1 + 1) (L + 1) → @Ne Nat (L + 1 + 1 + 1 + 1) (248) → @Ne Nat (L + 1 + 1 + 1) (L + 1 + 1) → @Ne Nat (L + 1 + 1 + 1) (L + 1) → @Ne Nat (L + 1 + 1 + 1) (248) → @Ne Nat (L + 1 + 1) (L + 1) → @Ne Nat (L + 1 + 1) (248) → @Ne Nat (L + 1) (248) → G) : G := by
  obtain ⟨_, b1, b2, b3, b4, b5, b6⟩ := a2
  obtain ⟨c1, _, c3⟩ := a3
  have t01 : @LT.lt Nat _ (248) (L + 1) := Nat.lt_succ_of_lt l0
  have t12 : @LT.lt Nat _ (L + 1) (L + 1 + 1) := Nat.lt_succ_self _
  have t23 : @LT.lt Nat _ (L + 1 + 1) (L + 1 + 1 + 1) := Nat.lt_succ_self _
  have t34 : @LT.lt Nat _ (L + 1 + 1 + 1) (L + 1 + 1 + 1 + 1) := Nat.lt_succ_self _
  have t45 : @LT.lt Nat _ (L + 1 + 1 + 1 + 1) (L + 1 + 1 + 1 + 1 + 1) := Nat.lt_succ_self _
  have t56 : @LT.lt Nat _ (L + 1 + 1 + 1 + 1 + 1) (lW) := c3
  have t67 : @LT.lt Nat _ (lW) (lF) := a4
  have t02 : @LT.lt Nat _ (248) (L + 1 + 1) := Nat.lt_trans t01 t12
  have t13 : @LT.lt Nat _ (L + 1) (L + 1 + 1 + 1) := Nat.lt_trans t12 t23
  have t24 : @LT.lt Nat _ (L + 1 + 1) (L + 1 + 1 + 1 + 1) := Nat.lt_trans t23 t34
  have t35 : @LT.lt Nat _ (L + 1 + 1 + 1) (L + 1 + 1 + 1 + 1 + 1) := Nat.lt_trans t34 t45
  have t46 : @LT.lt Nat _ (L + 1 + 1 + 1 + 1) (lW) := Nat.lt_trans t45 t56
  have t57 : @LT.lt Nat _ (L + 1 + 1 + 1 + 1 + 1) (lF) := Nat.lt_trans t56 t67
  have t03 : @LT.lt Nat _ (248) (L + 1 + 1 + 1) := Nat.lt_trans t02 t23
  have t14 : @LT.lt Nat _ (L + 1) (L + 1 + 1 + 1 + 1) := Nat.lt_trans t13 t34
  have t25 : @LT.lt Nat _ (L + 1 + 1) (L + 1 + 1 + 1 + 1 + 1) := Nat.lt_trans t24 t45
  have t36 : @LT.lt Nat _ (L + 1 + 1 + 1) (lW) := Nat.lt_trans t35 t56
  have t47 : @LT.lt Nat _ (L + 1 + 1 + 1 + 1) (lF) := Nat.lt_trans t46 t67
  have t04 : @LT.lt Nat _ (248) (L + 1 + 1 + 1 + 1) := Nat.lt_trans t03 t34
  have t15 : @LT.lt Nat _ (L + 1) (L + 1 + 1 + 1 + 1 + 1) := Nat.lt_trans t14 t45
  have t26 : @LT.lt Nat _ (L + 1 + 1) (lW) := Nat.lt_trans t25 t56
  have t37 : @LT.lt Nat _ (L + 1 + 1 + 1) (lF) := Nat.lt_trans t36 t67
  have t05 : @LT.lt Nat _ (248) (L + 1 + 1 + 1 + 1 + 1) := Nat.lt_trans t04 t45
  have t16 : @LT.lt Nat _ (L + 1) (lW) := Nat.lt_trans t15 t56
  have t27 : @LT.lt Nat _ (L + 1 + 1) (lF) := Nat.lt_trans t26 t67
  have t06 : @LT.lt Nat _ (248) (lW) := Nat.lt_trans t05 t56
  have t17 : @LT.lt Nat _ (L + 1) (lF) := Nat.lt_trans t16 t67
  have t07 : @LT.lt Nat _ (248) (lF) := Nat.lt_trans t06 t67
  exact k (Nat.ne_of_gt t67) (Nat.ne_of_gt (Nat.lt_trans c1 a4)) (Nat.ne_of_gt t57) (Nat.ne_of_gt t47) (Nat.ne_of_gt t37) (Nat.ne_of_gt t27) (Nat.ne_of_gt t17) (Nat.ne_of_gt t07) (Nat.ne_of_gt c1) (Nat.ne_of_gt t56) (Nat.ne_of_gt t46) (Nat.ne_of_gt t36) (Nat.ne_of_gt t26) (Nat.ne_of_gt t16) (Nat.ne_of_gt t06) (Ne.symm b1) (Ne.symm b2) (Ne.symm b3) (Ne.symm b4) (Ne.symm b5) (Ne.symm b6) (Nat.ne_of_gt t45) (Nat.ne_of_gt t35) (Nat.ne_of_gt t25) (Nat.ne_of_gt t15) (Nat.ne_of_gt t05) (Nat.ne_of_gt t34) (Nat.ne_of_gt t24) (Nat.ne_of_gt t14) (Nat.ne_of_gt t04) (Nat.ne_of_gt t23) (Nat.ne_of_gt t13) (Nat.ne_of_gt t03) (Nat.ne_of_gt t12) (Nat.ne_of_gt t02) (Nat.ne_of_gt t01)
theorem ledZ_with {L lF lW D H : Nat} {G : Prop} (h : H ∉ ledZ L lF lW D) (k : @Ne Nat H (lF) → @Ne Nat H (lW) → @Ne Nat H (D) → @Ne Nat H (L + 1 + 1 + 1 + 1 + 1) → @Ne Nat H (L + 1 + 1 + 1 + 1) → @Ne Nat H (L + 1 + 1 + 1) → @Ne Nat H (L + 1 + 1) → @Ne Nat H (L + 1) → @Ne Nat H (248) → G) : G := by
  have q := ledZ_ne h
  exact k q.1 q.2.1 q.2.2.1 q.2.2.2.1 q.2.2.2.2.1 q.2.2.2.2.2.1 q.2.2.2.2.2.2.1 q.2.2.2.2.2.2.2.1 q.2.2.2.2.2.2.2.2
theorem ledP_with {L lF P : Nat} {G : Prop} (h : P ∉ [lF, L + 1 + 1 + 1 + 1 + 1, L + 1 + 1 + 1 + 1, L + 1 + 1 + 1, 248]) (k : @Ne Nat P (lF) → @Ne Nat P (L + 1 + 1 + 1 + 1 + 1) → @Ne Nat P (L + 1 + 1 + 1 + 1) → @Ne Nat P (L + 1 + 1 + 1) → @Ne Nat P (248) → G) : G := by
  simp only [List.mem_cons, List.not_mem_nil, or_false, not_or] at h
  exact k h.1 h.2.1 h.2.2.1 h.2.2.2.1 h.2.2.2.2
noncomputable def Op.headB : Op → Bool
  | .offset _ _ | .reg _ _ | .same _ | .valOff _ _ => true
  | _ => false
theorem head_eq (op : Op) : decide (op.name ∈ [Str.ofString "offset", Str.ofString "register", Str.ofString "same_value", Str.ofString "val_offset"]) = op.headB := by
  cases op <;> rfl
theorem head_of {op : Op} (h : op.name ∈ [Str.ofString "offset", Str.ofString "register", Str.ofString "same_value", Str.ofString "val_offset"]) : op.head := by
  have e := (head_eq op).symm.trans (decide_eq_true h)
  clear h
  cases op <;> first | exact True.intro | exact Bool.noConfusion e
/-- a turn's operations stand -/
inductive JO (s : Shared) (g h₁ : Heap) (L lF lW D : Addr) (fl od o5 o4 o3 o1 : Obj) (I : Addr) (s' : Shared) : Prop
  | mk (h tk H o2 size low tl m hvs hn oW heads t2 P pvs pn ops : _) : (s' = { s with heap := h, toks := tk }) → ((H ≠ L ∧ g.get? H = none ∧ H ∉ ledZ L lF lW D ∧ h₁.get? H = none)) → ((P ≠ L ∧ g.get? P = none ∧ P ∉ ledZ L lF lW D ∧ h₁.get? P = none)) → (o2.data = .cell (some (.int low tl))) → Fr g L h m → ((m (Str.ofString "size") = some (.int size t2) ∧ m (Str.ofString "heads") = some (.ref H) ∧ m (Str.ofString "ops") = some (.ref P))) → News g L h (led0 L lF lW D fl oW od o5 o4 o3 o2 o1 (tabObj #[])) → (h.get? H = some (listOf (List.toArray hvs) hn)) → (h.get? P = some (listOf (List.toArray pvs) pn)) → WellOb D oW → All2 (OpIn (hideAll h (L :: ledZ L lF lW D ++ [I]))) hvs heads → (∀ op ∈ heads, op.head ∧ op.ok) → heads.length ≤ 3 → All2 (OpIn (hideAll h (L :: ledZ L lF lW D ++ [I]))) pvs ops → (∀ op ∈ ops, op.ok) → ops.length ≤ 9 → Kept (L :: ledZ L lF lW D) h₁ h → JO s g h₁ L lF lW D fl od o5 o4 o3 o1 I s'
section
variable {prog : Program} {w : World} {A : Around} {E : Value → Shared → Prop} {s : Shared} {env : Env}
theorem range_NZ {elt : Expr} {x : Str} {px : Pos} {scope : Scope} {cl : List (Str × Addr)} {y : Str} {py : Pos} {Q : Flow → Shared → Prop} {r : Addr} {b₀ : Int} {t₀ u₀ v₀ : Tok} (hh : A.handled = none) (hr : IsRange s.heap r 0 b₀ 1 t₀ u₀ v₀) (h0 : 0 ≤ b₀) (h1 : b₀ ≤ 1000)
    (H : TurnsNA prog w A env elt x px scope cl y py Q E s [] b₀.toNat fun i v => ∃ t, v = .int (0 + i) t) :
    wpAny (model prog w) A (pyIter (.ref r)) (fun it s₂ => AtNA prog w A env elt x px scope cl y py Q E it s₂) E s :=
  range_NA hh hr (small_one (by decide) (by decide) (by omega) (by omega)) (by rw [rangeSize_one]; split <;> omega) (by rw [sizeLine_eq]; omega) H
end
section
variable {M : Model} {A : Around} {E : Value → Shared → Prop} {s : Shared} {g : Heap} {L C c : Addr} {m mg mb : Str → Option Value} {x : Str} {px : Pos} {v : Value} {o : Obj} {scope : Scope} {cc : List (Str × Addr)} {env : Env} {K : Frag} {p : Program} {loose : List Str} {mean : ExcName → Option Value} {news : List (Addr × Obj)} {Q : Value → Shared → Prop}
theorem nameCell_K (N : News g L s.heap news) (hc : cc.lookup x = some c) (hm : (c, o) ∈ news) (hd : o.data = .cell (some v)) (h : Q v s) (hk : (compEnvC scope cc C env).scope.kind = .function := by rfl) (hl : (compEnvC scope cc C env).kindOf x = some .cell := by rfl) (hb : (x == ("__debug__" : Str)) = false := by decide) :
    wpAny M A (eval (.Name x px) (compEnvC scope cc C env)) Q E s := name_CC hc (N _ hm).1 hd hk hl hb px s Q E (Up.refl _) h
theorem nameGlob_K (F : Fr g L s.heap m) (X : K.In g) (T : Top p loose mean mg mb g) (e : nsIn K mainGlobals x = some (some v)) (h : Q v s) (hg : env.globals = mainGlobals := by rfl)
    (hk : (compEnvC scope cc C env).scope.kind = .function := by rfl) (hx : (compEnvC scope cc C env).kindOf x = some .globalImplicit := by rfl) (hd : (x == ("__debug__" : Str)) = false := by decide) :
    wpAny M A (eval (.Name x px) (compEnvC scope cc C env)) Q E s := name_G F X T e hg hk hx hd px s Q E (Up.refl _) h
end
/-- the operations so far, while they are made -/
inductive JP (g h₈ : Heap) (L lF lW D : Addr) (fl od o5 o4 o3 o2 o1 : Obj) (m : Str → Option Value) (H : Addr) (oH : Obj) (Z : List Addr) (i : Nat) (ys : List Value) (h : Heap) : Prop
  | mk (oW : Obj) (ops : List Op) : Fr g L h m → News g L h (led0 L lF lW D fl oW od o5 o4 o3 o2 o1 (tabObj #[])) → (h.get? H = some oH) → WellOb D oW → All2 (OpIn (hideAll h Z)) ys ops → (∀ op ∈ ops, op.ok) → (ops.length = i) → Kept (L :: H :: ledZ L lF lW D) h₈ h → JP g h₈ L lF lW D fl od o5 o4 o3 o2 o1 m H oH Z i ys h
theorem allLt_mem {d : Nat} {l : List (Addr × Obj)} {p : Addr × Obj} (h : AllLt d l) (hp : p ∈ l) : @LT.lt Nat _ p.1 d := by
  induction l with
  | nil => cases hp
  | cons q r ih =>
    rcases List.mem_cons.mp hp with rfl | hp
    · exact h.1
    · exact ih h.2 hp

/-- an object that no row or rule is -/
inductive NoLot (w : World) (h : Heap) (a : Addr) : Prop
  | mk (o : _) : (h.get? a = some o) → ((∀ vs n, o ≠ tupOb vs n)) → (∀ kvs, ¬ o.IsDictOf (iK w) kvs) → NoLot w h a
theorem NoLot.up {w : World} {h h' : Heap} {a : Addr} (x : NoLot w h a) (k : Up h h') : NoLot w h' a := let ⟨o, e, r, z⟩ := x; ⟨o, k _ _ e, r, z⟩
theorem noLot_cell {w : World} {h : Heap} {a : Addr} {o : Obj} {v : Option Value} (e : h.get? a = some o) (d : o.data = .cell v) : NoLot w h a :=
  ⟨o, e, (fun vs n q => by subst q; cases d), fun kvs q => by obtain ⟨_, _, _, h1, _⟩ := q; rw [d] at h1; cases h1⟩
theorem noLot_fields {w : World} {h : Heap} {a : Addr} {o : Obj} {vs : Array Value} (e : h.get? a = some o) (d : o.data = .fields vs) : NoLot w h a :=
  ⟨o, e, (fun vs n q => by subst q; cases d), fun kvs q => by obtain ⟨_, _, _, h1, _⟩ := q; rw [d] at h1; cases h1⟩
theorem noLot_list {w : World} {h : Heap} {a : Addr} {vs : Array Value} {n : Nat} (e : h.get? a = some (listOf vs n)) : NoLot w h a :=
  ⟨_, e, (fun us k q => by have := congrArg (·.cls) q; simp at this), fun kvs q => by obtain ⟨_, _, _, h1, _⟩ := q; cases h1⟩
theorem noLot_ns {w : World} {h : Heap} {L : Addr} {m : Str → Option Value} {x : Str} {v : Value} (n : h.Ns L m) (hm : m x = some v) : NoLot w h L := by
  obtain ⟨oL, es', ep', eL, hdL, hs, hf⟩ := n
  refine ⟨oL, eL, (fun vs n q => by rw [q] at hdL; cases hdL), fun kvs q => ?_⟩
  obtain ⟨es, ep, _, hd, hk, _, _⟩ := q
  rw [hd] at hdL
  cases hdL
  have hx := hf x
  rw [hm] at hx
  rcases es' with ⟨_ | ⟨e, r⟩⟩
  · cases hx
  · obtain ⟨n, t, hn⟩ := hs e (by simp)
    obtain ⟨k, hk1, _⟩ := hk e (by simp)
    rw [hn] at hk1
    cases hk1
theorem LotRow.hide {w : World} {h : Heap} {v : Value} {r : Row} {Z : List Addr} (x : LotRow w h v r) (hZ : ∀ a ∈ Z, NoLot w h a) : LotRow w (hideAll h Z) v r := by
  obtain ⟨T, t, cv, D, n, e, h1, h2, h3⟩ := x
  have nt : ∀ a ∈ Z, ∀ vs n, h.get? a ≠ some (tupOb vs n) := fun a ha vs n q => by
    obtain ⟨o, e, r, _⟩ := hZ a ha
    rw [e] at q; exact r _ _ (Option.some.inj q)
  have uT := hide_upT (h := h) (h' := h) (fun b o e _ => e) nt
  refine ⟨T, t, cv, D, n, e, uT _ _ _ h1, h2.keepT uT, h3.keepT (fun o e => hideAll_get _ e fun q => ?_) uT⟩
  obtain ⟨o1, e1, _, r1⟩ := hZ D q
  obtain ⟨o2, kvs, e2, _, r2, _⟩ := h3
  rw [e1] at e2; cases e2
  exact r1 _ r2
theorem LotRes.hide {w : World} {h h' : Heap} {v : Value} {o : Option (List Row)} {Z : List Addr} (x : LotRes w h h' v o) (u : Up h h') (hZ : ∀ a ∈ Z, NoLot w h a) : LotVal w (hideAll h' Z) v o := by
  cases o with
  | none => exact x
  | some l =>
    obtain ⟨R, vs, n, e, h1, h2, h3⟩ := x
    refine ⟨R, vs, n, e, hideAll_get _ h2 fun q => ?_, h3.imp fun v r y => y.hide fun a ha => (hZ a ha).up u⟩
    obtain ⟨o, e, _⟩ := hZ R q
    rw [h1] at e; cases e
theorem codeAmong_snoc' {pos : Pos} {a b : Int} {c cv : Value} (l : List Value) (h : TriplesOk l) (hn : codeAmong pos (l ++ [rawInt a, rawInt b, c]) = some cv) : codeAmong pos l = some cv ∨ cv = c := by
  fun_induction TriplesOk l with
  | case1 =>
    simp only [List.nil_append, codeAmong, rawInt] at hn
    split at hn
    · exact .inr (Option.some.inj hn).symm
    · cases hn
  | case2 a' t b' u x rest ih =>
    simp only [List.cons_append, codeAmong] at hn ⊢
    split at hn
    · rename_i hc; rw [if_pos hc]; exact .inl hn
    · rename_i hc; rw [if_neg hc]; exact ih h hn
  | case3 l h1 h2 => exact h.elim
/-- the code's table: what it holds are the records of lambdas -/
noncomputable def TabOk (q : Str) (h : Heap) (ps : Array Value) : Prop := TriplesOk ps.toList ∧ ∀ pos cv, codeAmong pos ps.toList = some cv → ∃ c', cv = .ref c' ∧ h.CodeRec (.ref c') q
theorem TabOk.up {q : Str} {h h' : Heap} {ps : Array Value} (x : TabOk q h ps) (k : Up h h') : TabOk q h' ps := ⟨x.1, fun pos cv e => let ⟨c', e1, e2⟩ := x.2 pos cv e; ⟨c', e1, e2.keeps k⟩⟩
section
variable {M : Model} {A : Around} {E : Value → Shared → Prop} {s : Shared} {h₀ : Heap} {L a c P : Addr} {m mg mb : Str → Option Value} {cn : Str} {cs : Scope} {ccd : Value} {cl : List (Str × Addr)} {news : List (Addr × Obj)} {g : Obj → List (Addr × Obj)}
  {p : Program} {loose : List Str} {mean : ExcName → Option Value} {name qual q : Str} {params : Arguments} {body : Expr} {scope : Scope} {ps : Array Value} {pos : Pos} {firstLine : Nat} {clos : List (Str × Addr)} {Z : List Addr}
/-- a lambda, made anew or met again -/
theorem lam_T {Q : Value → Shared → Prop} (F : Fr h₀ L s.heap m) (N : News h₀ L s.heap news) (T : Top p loose mean mg mb h₀) (C : CodeHd h₀ c P) (hcd : ccd = .ref c) (U : UpdF P (tabObj ps) news g)
    (tb : TabOk q (hideAll s.heap Z) ps) (hZ : ∀ a ∈ Z, ∃ o, s.heap.get? a = some o) (hPZ : P ∈ Z) (hq : qual = q) (hcl : closureFor scope (envX cn cs L a ccd cl) = pure clos)
    (h : ∀ f c' ctv h' tk ps', Fr h₀ L h' m → News h₀ L h' (g (tabObj ps')) → Kept [P] s.heap h' → s.heap.get? f = none → h'.get? f = some (kla_obj name qual params body scope clos ((mg "__name__").getD .none) c' ctv) → h'.CodeRec (.ref c') qual → TabOk q (hideAll h' Z) ps' →
      Q (.ref f) { s with heap := h', toks := tk }) :
    wpAny M A (makeFunction name qual params (.expr body) scope (envX cn cs L a ccd cl) [] [] [] pos firstLine) Q E s := by
  subst hq
  obtain ⟨own, rest, hne, hgr, h1, h2⟩ := U.split
  have hm := N (P, tabObj ps) (by rw [hne]; exact List.mem_append_right _ (.head _))
  have hgs := T.g.keeps F.keep
  obtain ⟨bm, ob, b1, b2, b3, b4, b5, b6⟩ := T.bmain
  have hgP : mainGlobals ≠ P := fun q => by
    obtain ⟨o, es, ep, e, hd, _⟩ := hgs
    rw [q, hm.1] at e; cases e; cases hd
  have hbP : bm ≠ P := fun q => by
    have e := F.keep _ _ b3
    rw [q, hm.1] at e; cases e; cases b4
  have hbG : bm ≠ mainGlobals := fun q => by
    obtain ⟨o, es, ep, e, hd, _⟩ := T.g
    rw [q, e] at b3; cases b3; rw [hd] at b6; cases b6
  have fin : ∀ f c' ctv h' tk ps', Kept [P] s.heap h' → h'.get? P = some (tabObj ps') → s.heap.get? f = none → h'.get? f = some (kla_obj name qual params body scope clos ((mg "__name__").getD .none) c' ctv) → h'.CodeRec (.ref c') qual → TabOk qual (hideAll h' Z) ps' → Q (.ref f) { s with heap := h', toks := tk } := fun f c' ctv h' tk ps' k e ef eg hr tb' =>
    have r := News.upd F N U k e
    h f c' ctv h' tk ps' r.1 r.2 k ef eg hr tb'
  rcases hca : codeAmong pos ps.toList with _ | cv
  · refine kla_makeFunction (mg := mg) hcl rfl hgs hcd (C.keeps F.keep) hm.1 tb.1 hca hgP ⟨bm, ob, b1, b2, hbG, hbP, F.keep _ _ b3, b4, b5, b6⟩ fun c' ctv h' tk hx hge hlt hrec htb => ?_
    have kx : Kept [P] s.heap (h'.push (kla_obj name qual params body scope clos ((mg "__name__").getD .none) c' ctv)) := fun b o hb e => Heap.get?_push_of_some _ (hx b o (fun q => hb (List.mem_singleton.mpr q)) e)
    have hnZ : c' ∉ Z := fun q => by
      obtain ⟨o, e⟩ := hZ c' q
      exact absurd (Heap.lt_size e) (Nat.not_lt.mpr hge)
    refine fin _ c' ctv _ tk _ kx (Heap.get?_push_of_some _ htb) (Heap.get?_none_of_le (Nat.le_trans hge (Nat.le_of_lt hlt))) (Heap.get?_push_size _ rfl) (hrec.push _) ⟨?_, fun pos' cv e => ?_⟩
    · rw [Array.toList_append]; exact TriplesOk_snoc _ _ _ _ tb.1
    · rw [Array.toList_append] at e
      have u := hide_step (Z := Z) (Z' := Z) kx (fun a ha => by rw [List.mem_singleton.mp ha]; exact hPZ) (fun a ha => .inl ha)
      rcases codeAmong_snoc' _ tb.1 e with e | rfl
      · obtain ⟨c2, e1, e2⟩ := tb.2 pos' cv e
        exact ⟨c2, e1, e2.keeps u⟩
      · obtain ⟨c2, o, vs, t, e2, e3, e4⟩ := hrec.push (kla_obj name qual params body scope clos ((mg "__name__").getD .none) c' ctv)
        cases e2
        exact ⟨_, rfl, _, o, vs, t, rfl, hideAll_get _ e3 hnZ, e4⟩
  · obtain ⟨c', rfl, hrec⟩ := tb.2 pos cv hca
    refine kla_makeFunctionHit (mg := mg) hcl rfl hgs hcd (C.keeps F.keep) hm.1 tb.1 hca ⟨bm, ob, b1, b2, hbG, hbP, F.keep _ _ b3, b4, b5, b6⟩ fun ctv h' tk hk hsz => ?_
    have kx : Up s.heap (h'.push (kla_obj name qual params body scope clos ((mg "__name__").getD .none) c' ctv)) := fun b o e => Heap.get?_push_of_some _ (hk b o e)
    exact fin _ c' ctv _ tk ps (fun b o _ e => kx b o e) (kx _ _ hm.1) (Heap.get?_none_of_le hsz) (Heap.get?_push_size _ rfl) ((hrec.keeps hide_out).keeps kx) (tb.up (hide_step (as := []) (fun b o _ e => kx b o e) (fun a ha => by cases ha) (fun a ha => .inl ha)))
/-- x, y = (u, v): a cell and a name -/
theorem pair_FL {prog : Program} {w : World} {x y : Str} {px py pos : Pos} {k : Nat} {t c : Addr} {u v : Value} {o : Obj} {v₀ : Option Value} {Q : Unit → Shared → Prop} (F : Fr h₀ L s.heap m) (N : News h₀ L s.heap news) (ht : IsTup s.heap t [u, v].toArray) (hh : A.handled = none)
    (hc : cl.lookup x = some c) (U : UpdF c o news g) (hd : o.data = .cell v₀)
    (h : ∀ h' tk o', Fr h₀ L h' (fun z => if z = y then some v else m z) → News h₀ L h' (g o') → o'.data = .cell (some u) → Q () { s with heap := h', toks := tk })
    (hk : cs.kind = .function := by rfl) (hx : (envX cn cs L a ccd cl).kindOf x = some .cell := by rfl) (hy : (envX cn cs L a ccd cl).kindOf y = some .local := by rfl) :
    wpAny (model prog w) A (assign (.Tuple [.Name x px, .Name y py] k pos) (envX cn cs L a ccd cl) (.ref t)) Q E s :=
  unpackN_ F N ht hh rfl rfl fun h1 F1 N1 => assignInOrder_cons (assign_Name (storeX_C (s := { s with heap := h1 }) F1 N1 hc U hd (fun h2 o' F2 N2 d' => assignInOrder_cons (assign_Name (storeX_L (s := { s with heap := h2 }) F2 N2 (fun h3 F3 N3 => wpAny_pure (h h3 _ o' F3 N3 d')) hk hy))) hk hx))
/-- a captured name, wherever its cell stands -/
theorem nameF_H {x : Str} {v : Value} {o : Obj} {Q : Value → Shared → Prop} (hc : cl.lookup x = some c) (e : s.heap.get? c = some o) (hd : o.data = .cell (some v)) (h : Q v s)
    (hk : cs.kind = .function := by rfl) (hx : (envX cn cs L a ccd cl).kindOf x = some .free := by rfl) (hb : (x == ("__debug__" : Str)) = false := by decide) (hn : (x == ("__classdict__" : Str)) = false := by decide) :
    wpAny M A (eval (.Name x pos) (envX cn cs L a ccd cl)) Q E s := wpAny_Name (wpAny_loadName_free hk hx hc ⟨o, e, hd⟩ h hn) hb
end
section
variable {M : Model} {A : Around} {E : Value → Shared → Prop} {s' : Shared} {base g g₂ h : Heap} {outer : List Env} {L a e : Addr} {m : Str → Option Value} {name : Str} {scope : Scope} {cd : Value} {cl : List (Str × Addr)} {Q : Unit → Shared → Prop}
theorem leave_faultX (K : Below A base outer g) (hLg : g.get? L = none) (R : FaultOut [] (envX name scope L a cd cl :: outer) g e s'.heap)
    (hQ : ∀ h', FaultOut [] outer g e h' → Q () { s' with heap := h' }) :
    wpAny M (A.deeper (envX name scope L a cd cl)) (leaving (envX name scope L a cd cl) (.ref e)) Q E s' := by
  obtain ⟨⟨B, a0, hB, hfl⟩, hsl⟩ := R
  refine wpAny_leaves_onW (Around.frames_deeper K.stack) rfl hfl fun h' x1 x2 => hQ h' ⟨⟨B, a0, fun b o hb _ hn => hB b o hb (List.not_mem_nil) fun hm => ?_, x1⟩, fun b o hb _ hn => ?_⟩
  · rcases List.mem_filterMap.mp hm with ⟨env, henv, hf⟩
    rcases List.mem_cons.mp henv with rfl | henv
    · have : L = b := Option.some.inj hf
      rw [← this, hLg] at hb; cases hb
    · exact hn (List.mem_filterMap.mpr ⟨env, henv, hf⟩)
  · obtain ⟨sl, hsl'⟩ := hsl b o hb (List.not_mem_nil) hn
    obtain ⟨sl2, h2⟩ := x2 b { o with slots := sl } hsl' hn
    exact ⟨sl2, h2⟩
end
theorem fr_slots {g h h' : Heap} {L : Addr} {m : Str → Option Value} (F : Fr g L h m) (k : Kept [L] h h') (hs : ∀ o, h.get? L = some o → (∀ vs, o.data ≠ .fields vs) → ∃ sl, h'.get? L = some { o with slots := sl }) : Fr g L h' m := by
  have hg := fr_off F
  obtain ⟨⟨oL, es, ep, e1, e2, r⟩, kp, ab⟩ := F
  obtain ⟨sl, e3⟩ := hs oL e1 (fun vs q => by rw [e2] at q; cases q)
  exact ⟨⟨_, es, ep, e3, e2, r⟩, fun b o e => k b o (fun q => by rw [List.mem_singleton.mp q, hg] at e; cases e) (kp b o e), ab⟩
theorem rows_few {f : FDE} {rows : List Row} (h : f.rows = some rows) (hh : f.heads.length ≤ 50) (ho : f.ops.length ≤ 50) : rows.length ≤ 101 := by
  unfold FDE.rows at h
  split at h
  · cases h
  · rename_i s1 e1
    split at h
    · cases h
    · rename_i s2 e2
      cases h
      have r1 := RS.run_few (n := 0) e1 ⟨Nat.le_refl _, Nat.le_refl _⟩
      have r2 := RS.run_few (n := 50) e2 ⟨by show s1.kept.length ≤ 50; omega, by show s1.rows.length ≤ 50; omega⟩
      simp only [RS.end', List.length_append, List.length_singleton]
      omega
/-- the law's ledger behind the functions -/
noncomputable abbrev led6 (L lF P : Addr) (fl ll o5 oF o3 tab : Obj) : List (Addr × Obj) := [(lF, fl), (P, ll), (L + 1 + 1 + 1 + 1 + 1, o5), (L + 1 + 1 + 1 + 1, oF), (L + 1 + 1 + 1, o3), (248, tab)]
noncomputable def ledY (L lF P : Addr) : List Addr := [lF, P, L + 1 + 1 + 1 + 1 + 1, L + 1 + 1 + 1 + 1, L + 1 + 1 + 1, 248]
theorem ledY_mem {L lF P a : Addr} {fl ll o5 oF o3 tab : Obj} (ha : a ∈ ledY L lF P) : ∃ o, (a, o) ∈ led6 L lF P fl ll o5 oF o3 tab := by
  simp only [ledY, List.mem_cons, List.not_mem_nil, or_false] at ha
  rcases ha with rfl | rfl | rfl | rfl | rfl | rfl
  · exact ⟨_, .head _⟩
  · exact ⟨_, .tail _ (.head _)⟩
  · exact ⟨_, .tail _ (.tail _ (.head _))⟩
  · exact ⟨_, .tail _ (.tail _ (.tail _ (.head _)))⟩
  · exact ⟨_, .tail _ (.tail _ (.tail _ (.tail _ (.head _))))⟩
  · exact ⟨_, .tail _ (.tail _ (.tail _ (.tail _ (.tail _ (.head _)))))⟩
theorem ledY_of {L lF P : Addr} {fl ll o5 oF o3 tab : Obj} {p : Addr × Obj} (hp : p ∈ led6 L lF P fl ll o5 oF o3 tab) : p.1 ∈ ledY L lF P := by
  simp only [led6, List.mem_cons, List.not_mem_nil, or_false] at hp
  simp only [ledY, List.mem_cons, List.not_mem_nil, or_false]
  rcases hp with rfl | rfl | rfl | rfl | rfl | rfl <;> simp
/-- how it stands behind the lots -/
inductive JS (q : Str) (w : World) (g : Heap) (L lF P : Addr) (oF : Obj) (fvs : List Value) (n : Nat) (lvs : List Value) (ln : Nat) (fs : List FDE) (wr : List Addr) (h : Heap) : Prop
  | mk (m : Str → Option Value) (o3 o5 : Obj) (x3 x5 : Option Value) (ps : Array Value) : Fr g L h m → (m (Str.ofString "lots") = some (.ref P)) → News g L h (led6 L lF P (listOf (List.toArray fvs) n) (listOf (List.toArray lvs) ln) o5 oF o3 (tabObj ps)) → (o3.data = .cell x3) → (o5.data = .cell x5) → All2 (FdeAt (hideAll h (L :: ledY L lF P ++ wr))) fvs fs → All2 (LotVal w (hideAll h (L :: ledY L lF P ++ wr))) lvs (fs.map lawRows) → TabOk q (hideAll h (L :: ledY L lF P ++ wr)) ps → JS q w g L lF P oF fvs n lvs ln fs wr h
inductive JL (q : Str) (w : World) (s : Shared) (g : Heap) (L lF : Addr) (oF : Obj) (s' : Shared) : Prop
  | mk (h tk P fvs n lvs ln fs : _) : (s' = { s with heap := h, toks := tk }) → ((P ∉ [lF, L + 1 + 1 + 1 + 1 + 1, L + 1 + 1 + 1 + 1, L + 1 + 1 + 1, 248])) → JS q w g L lF P oF fvs n lvs ln fs [] h → (∀ f ∈ fs, FOk f) → fs.length ≤ 3 → JL q w s g L lF oF s'
theorem lotvals_up {w : World} {h h' : Heap} (k : Up h h') {vs : List Value} {l : List (Option (List Row))} (x : All2 (LotVal w h) vs l) : All2 (LotVal w h') vs l := x.imp fun _ _ r => r.up k
theorem JS.after {q : Str} {w : World} {g h h' : Heap} {L lF P : Addr} {oF : Obj} {fvs : List Value} {n : Nat} {lvs : List Value} {ln : Nat} {fs : List FDE} {wr : List Addr} (J : JS q w g L lF P oF fvs n lvs ln fs wr h) (k : Kept wr h h') (gwr : ∀ b ∈ wr, b ≠ L ∧ g.get? b = none) (hn : ∀ a ∈ ledY L lF P, a ∉ wr) : JS q w g L lF P oF fvs n lvs ln fs wr h' := by
  obtain ⟨m, o3, o5, x3, x5, ps, F, m1, N, d3, d5, A, B, TB⟩ := J
  have u := hide_step (Z := L :: ledY L lF P ++ wr) (Z' := L :: ledY L lF P ++ wr) k (fun a ha => List.mem_append_right _ ha) (fun a ha => .inl ha)
  exact ⟨m, o3, o5, x3, x5, ps, Fr.after F k gwr, m1, News.afterK N k (fun p hp => hn _ (ledY_of hp)), d3, d5, fdes_up u A, lotvals_up u B, TB.up u⟩
theorem JS.add {q : Str} {w : World} {g h h' : Heap} {L lF P : Addr} {oF : Obj} {fvs : List Value} {n : Nat} {lvs : List Value} {ln : Nat} {fs : List FDE} {wr : List Addr} (J : JS q w g L lF P oF fvs n lvs ln fs [] h) (k : Up h h') (hw : ∀ b ∈ wr, h.get? b = none) : JS q w g L lF P oF fvs n lvs ln fs wr h' := by
  obtain ⟨m, o3, o5, x3, x5, ps, F, m1, N, d3, d5, A, B, TB⟩ := J
  have u := hide_step (h := h) (h' := h') (as := []) (Z := L :: ledY L lF P ++ []) (Z' := L :: ledY L lF P ++ wr) (fun b o _ e => k b o e) (fun a ha => by cases ha) (fun a ha => by
    rcases List.mem_append.mp ha with ha | ha
    · exact .inl (List.mem_append_left _ ha)
    · exact .inr (hw a ha))
  exact ⟨m, o3, o5, x3, x5, ps, F.keeps k, m1, News.keepsUp N k, d3, d5, fdes_up u A, lotvals_up u B, TB.up u⟩
theorem JS.done {q : Str} {w : World} {g h : Heap} {L lF P : Addr} {oF : Obj} {fvs : List Value} {n : Nat} {lvs : List Value} {ln : Nat} {fs : List FDE} {wr : List Addr} (J : JS q w g L lF P oF fvs n lvs ln fs wr h) : JS q w g L lF P oF fvs n lvs ln fs [] h := by
  obtain ⟨m, o3, o5, x3, x5, ps, F, m1, N, d3, d5, A, B, TB⟩ := J
  have u := hide_step (h := h) (h' := h) (as := []) (Z := L :: ledY L lF P ++ wr) (Z' := L :: ledY L lF P ++ []) (fun b o _ e => e) (fun a ha => by cases ha) (fun a ha => .inl (List.mem_append_left _ (by rwa [List.append_nil] at ha)))
  exact ⟨m, o3, o5, x3, x5, ps, F, m1, N, d3, d5, fdes_up u A, lotvals_up u B, TB.up u⟩
theorem lines_L10 : True := by
  k_with_none
  (k_with "execs cons" => (k_here; first | ((fail_if_success (fail_if_success k_gentoks)); (refine tok_letter ?_); intro tk) | (with_reducible refine execs_one ?_) | (with_reducible refine execs_cons_L ?_; intro Q9 hQ9)))
  (k_with "Behind" => ((rename (∀ f s', _ → Behind _ f s') => hB9); first | ((with_reducible refine hB9 _ _ ?_); (try ((with_reducible rename (_ → Shared → Prop) => Qz9); clear hB9 Qz9)); (try dsimp only)) | (clear hB9; k_extra "Behind")))
  (k_with "compareOp Eq ref ref" => (k_here; (with_reducible show wpAny _ _ (compareOp CmpOp.Eq (Value.ref _) (Value.ref _)) _ _ _); k_dflt (first | refine eq_nilT (by is_list) (by is_list) (by units_room) ?_ | refine eq_nilF (vs := _) (v := _) (by is_list) (by is_list) (by units_room) ?_)))
  (k_with "call builtin:list.pop" => (k_here; (with_reducible show wpAny _ _ (call (Value.builtin _) [Value.ref _]) _ _ _); k_dflt (refine' lpop_K ?FzL102 ?NzL102 ?UzL102 ?zzL102 ?_; (case FzL102 => k_asm); (case NzL102 => k_asm); (case UzL102 => k_upd); (case zzL102 => assumption)); (intro _ _ N'; (try dsimp only [List.nil_append, List.cons_append] at N'))))
  (k_with "eval Name" => (k_here; (with_reducible show wpAny _ _ (eval (PySem.Expr.Name _ _) (compEnvC _ _ _ _)) _ _ _); k_dflt (refine (name_C (by assumption) (by assumption) (by assumption)) _ _ _ _ (Up.refl _) ?_)))
  (k_with "call ref" => (k_here; (first | (with_reducible show wpAny _ _ (call (Value.ref 208) [_, _, _]) _ _ _) | (with_reducible show wpAny _ _ (call (Value.ref 227) [_]) _ _ _) | (with_reducible show wpAny _ _ (call (Value.ref 241) [_]) _ _ _) | (with_reducible show wpAny _ _ (call (Value.ref 246) [_, _, _]) _ _ _) | (with_reducible show wpAny _ _ (call (Value.ref 144) [_, _]) _ _ _) | (with_reducible show wpAny _ _ (call (Value.ref 234) [_]) _ _ _) | (with_reducible show wpAny _ _ (call (Value.ref 130) [_]) _ _ _)); refine Held.out ?_))
  (k_with "eval Lambda" => (k_here; (with_reducible show wpAny _ _ (eval (PySem.Expr.Lambda _ _ _ _) _) _ _ _); refine Held.out ?_))
  (k_with "assign Tuple" => (k_here; (with_reducible show wpAny _ _ (assign (PySem.Expr.Tuple [PySem.Expr.Name _ _, PySem.Expr.Name _ _] _ _) _ (Value.ref _)) _ _ _); k_dflt (refine' pair_FL ?FzL106 ?NzL106 ?tzL106 ?hzL106 ?czL106 ?UzL106 ?dzL106 ?_ ?azL106 ?bzL106 ?ezL106; (case FzL106 => k_asm); (case NzL106 => k_asm); (case tzL106 => assumption); (case hzL106 => exact rfl); (case czL106 => exact rfl); (case UzL106 => k_updF); (case dzL106 => assumption); (case azL106 => exact rfl); (case bzL106 => exact rfl); (case ezL106 => exact rfl); k_whole); intro _ _ _ _ _ _; (try k_sweep)))
  (k_with "call type:zip" => (k_here; (with_reducible show wpAny _ _ (call (Value.type _) [Value.ref _, Value.ref _]) _ _ _); refine Held.out ?_))
  (k_with "eval Name" => (k_here; k_dflt (refine' nameF_H ?czL108 ?ezL108 ?dzL108 ?_ ?azL108 ?bzL108; (case azL108 => rfl); (case bzL108 => rfl); (case czL108 => rfl); (case ezL108 => assumption); (case dzL108 => assumption); k_whole)))
  (k_with "compareOp NotEq ref ref" => (k_here; (with_reducible show wpAny _ _ (compareOp CmpOp.NotEq (Value.ref _) (Value.ref _)) _ _ _); refine Held.out ?_))
  (k_with "call ref" => (k_here; (with_reducible show wpAny _ _ (call (Value.ref 201) [Value.ref _, Value.int _ _]) _ _ _); k_dflt (refine' draw_K (vs := _) (ns := _) ?BzL1010 ?FzL1010 ?XzL1010 ?TzL1010 ?fzL1010 ?kzL1010 ?rzL1010 ?NzL1010 ?UzL1010 ?WzL1010 ?nezL1010 ?hlzL1010 ?hizL1010 ?lenzL1010 ?szL1010 ?_; (case BzL1010 => k_asm); (case FzL1010 => k_asm); (case XzL1010 => k_asm); (case TzL1010 => k_asm); (case fzL1010 => exact rfl); (case kzL1010 => exact rfl); (case rzL1010 => k_room); (case NzL1010 => k_asm); (case UzL1010 => k_updF); (case WzL1010 => assumption); (case nezL1010 => assumption); (case hizL1010 => assumption); (case hlzL1010 => exact News.isList (by k_asm) (by k_mem)); (case lenzL1010 => assumption); (case szL1010 => decide); k_whole); intro _ _ _ _ _ _ _ _ _ _; (try dsimp only)))
  (k_with "eval Name" => (k_here; k_dflt (refine' nameX_L ?FzL1011 ?vzL1011 ?_ ?azL1011 ?bzL1011; (case FzL1011 => k_asm); (case azL1011 => rfl); (case bzL1011 => rfl); (case vzL1011 => assumption); k_whole)))
  (k_with "eval Name" => (k_here; (with_reducible show wpAny _ _ (eval (PySem.Expr.Name _ _) (compEnvC _ _ _ _)) _ _ _); k_dflt (first | (refine' nameCell_K ?NzL1012 ?czL1012 ?mzL1012 ?dzL1012 ?_ ?azL1012 ?bzL1012; (case azL1012 => rfl); (case bzL1012 => rfl); (case czL1012 => rfl); (case NzL1012 => k_asm); (case mzL1012 => k_mem); (case dzL1012 => assumption); k_whole) | (refine' nameGlob_K ?FzL1012 ?XzL1012 ?TzL1012 ?ezL1012 ?_ ?gzL1012 ?azL1012 ?bzL1012; (case gzL1012 => rfl); (case azL1012 => rfl); (case bzL1012 => rfl); (case FzL1012 => k_asm); (case XzL1012 => k_asm); (case TzL1012 => k_asm); (case ezL1012 => k_is); k_whole))))
  (k_with "call builtin:list.append" => (k_here; (with_reducible show wpAny _ _ (call (Value.builtin _) [Value.ref _, _]) _ _ _); k_dflt (refine' append_K ?k1zL1013 ?k2zL1013 ?k3zL1013 ?_ ?zzL1013; (case k1zL1013 => k_asm); (case k2zL1013 => k_asm); (case k3zL1013 => k_upd); (case zzL1013 => ktr_room); k_whole); intro _ _ _; (try k_sweep)))
  (k_with "subscriptTail" => (k_here; (with_reducible show wpAny _ _ (subscriptTail _ _ (Value.ref _) (Value.int _ _)) _ _ _); refine Held.out ?_))
  (k_with "execs cons" => (k_here; (with_reducible show wpAny _ _ (execs (Stmt.Assign [_] (PySem.Expr.IfExp _ _ _ _) _ :: _) _) _ _ _); refine Held.out ?_))
  (k_with "exec For" => (k_here; (with_reducible show wpAny _ _ (exec (Stmt.For _ _ _ _ _) _) _ _ _); refine Held.out ?_))
  (k_with "exec For Tuple Call cons nil" => (k_here; (with_reducible show wpAny _ _ (exec (Stmt.For _ _ _ _ _) _) _ _ _); refine Held.out ?_))
  (k_with "exec For Name Call cons nil" => (k_here; (with_reducible show wpAny _ _ (exec (Stmt.For _ _ _ _ _) _) _ _ _); refine Held.out ?_))
  (k_with "execs cons" => (k_here; (with_reducible show wpAny _ _ (execs (Stmt.For _ _ _ _ _ :: _) _) _ _ _); refine Held.out ?_))
  (k_with "m k_lt" => (intro hlt9; replace hlt9 := allLt_of hlt9; dsimp only [AllLt] at hlt9; revert hlt9))
  (k_with "m k_ne" => ((refine neN ?_; (try dsimp only); first | (with_reducible assumption) | (with_reducible exact Ne.symm (by assumption)) | omega)))
  (k_with "m k_room" => (((try simp only [depth_under_make, depth_under_kw, depth_in1, depth_deeper, depth_caller]); (try dsimp only [arT, arC]); omega)))
  (k_with "m units_room" => (((try simp only [units_in1, units_deeper, Around.mark_units, units_caller]); (try dsimp only [arT, arC]); (have hcL9 := cLine_is); (try simp only [cLine] at *); omega)))
  (k_with "m k_handed" => (assumption))
  (k_with "m ktr_room" => ((rw [sizeLine_eq]; (try simp only [List.size_toArray, List.length_append, List.length_cons, List.length_nil]); omega)))
  trivial
theorem callerA_is : ∃ dp un, dp = 301 ∧ un = 4 ∧ callerA = arC dp un := ⟨1 + claimMargin, 4, by decide +kernel, rfl, rfl⟩

theorem cut_QE {α : Type} {M : Model} {A : Around} {t : Sem α} {Q : α → Shared → Prop} {E : Value → Shared → Prop} {s : Shared} (h : ∀ Q' E', Q' = Q → E' = E → wpAny M A t Q' E' s) : wpAny M A t Q E s := h Q E rfl rfl
theorem start_K {prog : Program} {w : World} {A : Around} {env : Env} {body : List Stmt} {Q : Flow → Shared → Prop} {E : Value → Shared → Prop} {s : Shared} (a : PassesOwn (model prog w) A env E) (h : PassesOwn (model prog w) A env E → wpAny (model prog w) A (execs body env) Q E s) : wpAny (model prog w) A (execs body env) Q E s := h a
theorem any_tok {α : Type} {M : Model} {A : Around} {t : Sem α} {Q : α → Shared → Prop} {E : Value → Shared → Prop} {s : Shared} {hh : Heap} {tk : Nat} (h : ∀ tk, wpAny M A t Q E { s with heap := hh, toks := tk }) : wpAny M A t Q E { s with heap := hh, toks := tk } := h tk
noncomputable def menuOk (names : List Str) : List Value → Bool
  | [] => true
  | .str x _ :: vs => decide (x ∈ names) && menuOk names vs
  | _ :: _ => false
theorem menu_of {names : List Str} : ∀ {vs : List Value}, menuOk names vs = true → ∀ v ∈ vs, ∃ x t, v = .str x t ∧ x ∈ names
  | [], _, v, hv => nomatch hv
  | .str x t :: vs, h, v, hv => by
    have h2 := Bool.and_eq_true_iff.mp h
    rcases List.mem_cons.mp hv with rfl | q
    · exact ⟨x, t, rfl, of_decide_eq_true h2.1⟩
    · exact menu_of h2.2 v q
set_option maxHeartbeats 8000000 in
theorem test : PySem.Challenge.rw_on0310_01.Holds := by
  apply hd
  w_strict (k_go0; (all_goals try k_fold))
  rename Shared => s₁
  refine cut_QE ?_
  intro QQ EE hQQ hEE
  rename_i w s₀ mg mb G Y fa o pm doc ho hg X V T1 B1 TE TW hcd ns hs hlay0 hL1 hr1 hl2 w9 w8 wl wvs w5 hL ra w1 r0 hI hr hc1 hc2 hD h1 tk1 oc5 oc4 oc3 oc2 oc1 y1 y2 y3 y4 y5 X0 X' T' B' F' N' l0
  have d5 : oc5.data = .cell none := y1
  have d4 : oc4.data = .cell none := y2
  have d3 : oc3.data = .cell none := y3
  have d2 : oc2.data = .cell none := y4
  have d1 : oc1.data = .cell none := y5
  clear y1 y2 y3 y4 y5 X0 hcd hD
  have hEnd : ∀ h9 tk9 m9 ps, Fr (ghostOf s₁.heap [(250, 248)]) s₁.heap.objs.size h9 m9 → News (ghostOf s₁.heap [(250, 248)]) s₁.heap.objs.size h9 [(248, tabObj ps)] → QQ (.ret (.bool true)) { s₁ with heap := h9, toks := tk9 } := by
    intro h9 tk9 m9 ps F9 N9
    rw [hQQ]
    clear hQQ
    w_strict k_steps
  clear hQQ
  have hle : ns.length ≤ 63 := by omega
  clear G Y X V T1 B1 TE TW hs hlay0 hL1 hr1 hl2 ra w1 r0 hr hc1 hc2
  w_strict k_steps
  unfold Held
  (with_reducible rename Fr _ _ _ _ => F0)
  (with_reducible rename News _ _ _ _ => N0)
  refine start_K ?pa ?_
  case pa => rw [hEE]; passes_own
  intro hPo
  clear hEE w5 w8 w9
  obtain ⟨m0, F⟩ : ∃ m, Fr (ghostOf s₁.heap [(250, 248)]) s₁.heap.objs.size _ m := ⟨_, F0⟩
  clear F0
  have codeHd : CodeHd (ghostOf s₁.heap [(250, 248)]) 250 248 := codeHd
  obtain ⟨g, eg⟩ : ∃ g, g = ghostOf s₁.heap [(250, 248)] := ⟨_, rfl⟩
  rw [← eg] at X' T' B' F N0 codeHd hEnd lifted
  refine letter fun Qg hg => ?_
  obtain ⟨dp, un, hdp, hun, hCA⟩ := callerA_is
  refine hg ?_
  clear hg
  rw [hCA] at B' hPo ⊢
  clear hCA
  have hroom : dp + 100 < recursionLimit := by rw [hdp]; decide
  have hunit : un + 600 < cLine := by rw [hun]; decide
  clear hdp hun
  rename_i chS D2 ws2 h5 hI2 hC2 hL2 a1 k1 k2 g2 hI8 hL8 D h4 tk2 a2 lW h3 a3 h2 oW dW lF h1x a4 h0 oF dF
  obtain ⟨L, eL⟩ : ∃ L, L = s₁.heap.objs.size := ⟨_, rfl⟩
  rw [← eL] at F N0 hEnd hPo l0 ⊢
  (try rw [← eL] at X')
  (try rw [← eL] at T')
  (try rw [← eL] at B')
  (try rw [← eL] at codeHd)
  (try rw [← eL] at hI2)
  (try rw [← eL] at hC2)
  (try rw [← eL] at hL2)
  (try rw [← eL] at k1)
  (try rw [← eL] at k2)
  (try rw [← eL] at g2)
  (try rw [← eL] at hI8)
  (try rw [← eL] at hL8)
  (try rw [← eL] at dW)
  (try rw [← eL] at dF)
  (try rw [← eL] at a1)
  (try rw [← eL] at a2)
  (try rw [← eL] at a3)
  (try rw [← eL] at a4)
  refine any_tok (s := s₁) (hh := h0) (fun tk0 => ?_)
  clear chS hI2 hC2 hL2 k1 k2 h5 g2 h4 h3 h2 h1x hT8 hT9 ho hg eg hI hL lifted
  have hDW : D ≠ lW := Nat.ne_of_lt a3.1
  refine led0_with l0.1 a2 ⟨a3.1, a3.2.1, a3.2.2.1⟩ a4.1 ?_
  intro _ _ _ _ _ _ _ _ _ _ _ _ _ _ _ _ _ _ _ _ _ _ _ _ _ _ _ _ _ _ _ _ _ _ _ _
  clear a1 a2 a3 a4
  have hlen : (List.map (fun k' => Int.fmod k' 2147483647) (List.take 63 ns)).length ≤ 63 := by rw [List.length_map]; exact Nat.le_trans (List.length_take_le _ _) (Nat.le_refl _)
  obtain ⟨zs, ezs⟩ : ∃ zs, zs = List.map (fun k' => Int.fmod k' 2147483647) (List.take 63 ns) := ⟨_, rfl⟩
  rw [← ezs] at hlen hI8
  obtain ⟨nD, enD⟩ : ∃ n, n = ys.length := ⟨_, rfl⟩
  obtain ⟨ow, eow⟩ : ∃ o, o = listOf #[.ref D, .int 0 tk2, .int 5 (tk2 + 1)] 0 := ⟨_, rfl⟩
  have N1 : News g L h0 (led0 L lF lW D (listOf (List.toArray []) 0) ow (listOf ys.toArray nD) oc5 oF oc3 oc2 oW (tabObj #[])) := by
    rw [enD, eow]
    intro p hp
    simp only [led0, List.mem_cons, List.not_mem_nil, or_false] at hp
    rcases hp with rfl | rfl | rfl | rfl | rfl | rfl | rfl | rfl | rfl
    · exact N0 _ (.head _)
    · exact N0 _ (.tail _ (.head _))
    · exact N0 _ (.tail _ (.tail _ (.head _)))
    · exact N0 _ (.tail _ (.tail _ (.tail _ (.tail _ (.head _)))))
    · exact N0 _ (.tail _ (.tail _ (.tail _ (.tail _ (.tail _ (.head _))))))
    · exact N0 _ (.tail _ (.tail _ (.tail _ (.tail _ (.tail _ (.tail _ (.head _)))))))
    · exact N0 _ (.tail _ (.tail _ (.tail _ (.tail _ (.tail _ (.tail _ (.tail _ (.head _))))))))
    · exact N0 _ (.tail _ (.tail _ (.tail _ (.tail _ (.tail _ (.tail _ (.tail _ (.tail _ (.head _)))))))))
    · exact N0 _ (.tail _ (.tail _ (.tail _ (.tail _ (.tail _ (.tail _ (.tail _ (.tail _ (.tail _ (.head _))))))))))
  clear N0
  have hw0 : WellOb D ow := eow ▸ ⟨0, 5, tk2, tk2 + 1, 0, by decide, by decide, by decide, rfl⟩
  refine join_cut (Jm := JB s₁ g L lF lW D (listOf ys.toArray nD) oc5 oF oc3 oW) ?_ ?_
  · have F₀ := And.intro F trivial
    with_unfolding_all refine For_H ?_ (by intro _; rfl) hPo
    dsimp only [led0] at N1
    w_strict k_steps
    (rename (IsRange _ _ _ _ _ _ _ _) => hRg)
    (with_reducible rename Fr _ _ _ _ => kF)
    (with_reducible rename News _ _ _ _ => kN)
    refine range_Z rfl hRg (by omega) (by omega) ?_
    intro I h₁ nI up1 eI
    dsimp only at nI up1
    have gI : ∀ b ∈ [I], b ≠ L ∧ g.get? b = none := fun b hb => by
      rw [List.mem_singleton.mp hb]
      exact ⟨(fun e => by obtain ⟨oL, hL⟩ := fr_there kF; rw [← e, nI] at hL; cases hL), up_none kF.keep nI⟩
    have hne : ∀ a ∈ ledZ L lF lW D, a ∉ [I] := fun a ha q => by
      obtain ⟨o, ho⟩ := ledZ_mem ha
      have := (kN _ ho).1
      dsimp only at this
      rw [List.mem_singleton.mp q, nI] at this
      cases this
    refine ⟨JF g L lF lW D (listOf ys.toArray nD) oc5 oF oc3 oW [I], ⟨m0, [], 0, _, oc2, none, [], kF.keeps up1, News.keepsUp kN up1, by assumption, d2, .nil, (fun f hf => by cases hf), rfl, .inl rfl⟩, fun i h h' J k => J.after k gI hne, ?_, ?_⟩
    · clear kF kN F₀ F N1
      rintro i t h tk KK hi jj1 eI' hK hKr
      refine letter fun Qg hg => ?_
      obtain ⟨m, fvs, n, ow9, o2, x2, fs, F, N1, hW, d2', A, ok, hl, _⟩ := jj1
      refine hg ?_
      clear hg
      obtain ⟨own, hown⟩ : ∃ own, restOf g h L (ledZ L lF lW D) = own := ⟨_, rfl⟩
      have hoff : OwnOff own (ledZ L lF lW D) := hown ▸ rest_off
      have N : News g L h (led0 L lF lW D (listOf (List.toArray fvs) n) ow9 (listOf ys.toArray nD) oc5 oF oc3 o2 oW (tabObj #[]) ++ own) := hown ▸ rest_news N1
      dsimp only [led0, List.cons_append, List.nil_append] at N
      dsimp only [ledZ] at hoff
      clear N1
      have F₀ := And.intro F trivial
      w_strict k_steps
      unfold Held
      (with_reducible rename Fr _ _ _ _ => kF)
      (with_reducible rename News _ _ _ _ => kN)
      refine join_cut (Jm := JM s₁ g h L lF lW D (listOf (List.toArray fvs) n) (listOf ys.toArray nD) oc5 oF oc3 oW I 1) ?_ ?_
      · w_strict k_steps
        · unfold Held
          rename_i Tb hT0 lTb Ta hT1 lTa H hA lH hB F9 N9
          have k9 := rest_kept F₀.1 F9 N9 (fun p hp => by rw [hown] at hp; k_ownIn)
          have q1 := N9 _ (.head _)
          have q2 := N9 _ (.tail _ (.head _))
          have q3 := N9 _ (.tail _ (.tail _ (.head _)))
          have z1 : H ∉ ledZ L lF lW D := above_led ⟨lH.2.2.2.1, lH.2.2.2.2.1, lH.2.2.2.2.2.1, lH.2.2.2.2.2.2.1, lH.2.2.2.2.2.2.2.2.2.2.2.1⟩
          have z2 : Ta ∉ ledZ L lF lW D := above_led ⟨lTa.2.2.1, lTa.2.2.2.1, lTa.2.2.2.2.1, lTa.2.2.2.2.2.1, lTa.2.2.2.2.2.2.2.2.2.2.1⟩
          have z3 : Tb ∉ ledZ L lF lW D := above_led ⟨lTb.2.1, lTb.2.2.1, lTb.2.2.2.1, lTb.2.2.2.2.1, lTb.2.2.2.2.2.2.2.2.2.1⟩
          have n1 := fresh_rest q1.2.2 q1.2.1 z1 (hown ▸ lH.2.2.2.2.2.2.2.2.2.2.2.2)
          have n2 := fresh_rest q2.2.2 q2.2.1 z2 (hown ▸ lTa.2.2.2.2.2.2.2.2.2.2.2)
          have n3 := fresh_rest q3.2.2 q3.2.1 z3 (hown ▸ lTb.2.2.2.2.2.2.2.2.2.2)
          have hI1 : ∀ a ∈ [I], ∃ o, h.get? a = some o := fun a ha => by rw [List.mem_singleton.mp ha]; exact eI'
          have ho := (⟨_, _, _, _, _, _, rfl, hideAll_get _ q2.1 (off_led q2.2.1 z2 (Nat.ne_of_lt lH.1) n2 hI1), hideAll_get _ q3.1 (off_led q3.2.1 z3 (Nat.ne_of_lt lH.2.1) n3 hI1), .cons _ _ (.cons _ _ .nil)⟩ : OpIn (hideAll _ (L :: ledZ L lF lW D ++ H :: [I])) (.ref Ta) (.cfa 2 _))
          refine ⟨_, _, H, _, _, _, _, rfl, ⟨q1.2.1, q1.2.2, z1, n1⟩, by assumption, ⟨_, [.ref Ta], 0, _, [.cfa 2 _], _, F9, ⟨rfl, rfl⟩, fun p hp => N9 _ (.tail _ (.tail _ (.tail _ (.tail _ (List.mem_append_left own hp))))), q1.1, by assumption, .cons ho .nil, ?_, Nat.le_refl _, k9⟩⟩
          · intro op hop
            rw [List.mem_singleton.mp hop]
            exact ⟨trivial, trivial⟩
        · unfold Held
          rename_i H hA lH hB F9 N9
          have k9 := rest_kept F₀.1 F9 N9 (fun p hp => by rw [hown] at hp; k_ownIn)
          have q1 := N9 _ (.head _)
          have z1 : H ∉ ledZ L lF lW D := above_led ⟨lH.2.1, lH.2.2.1, lH.2.2.2.1, lH.2.2.2.2.1, lH.2.2.2.2.2.2.2.2.2.1⟩
          have n1 := fresh_rest q1.2.2 q1.2.1 z1 (hown ▸ lH.2.2.2.2.2.2.2.2.2.2)
          exact ⟨_, _, H, _, _, _, _, rfl, ⟨q1.2.1, q1.2.2, z1, n1⟩, by assumption, ⟨_, [], 0, _, [], _, F9, ⟨rfl, rfl⟩, fun p hp => N9 _ (.tail _ (.tail _ (List.mem_append_left own hp))), q1.1, by assumption, .nil, (fun op hop => by cases hop), Nat.zero_le _, k9⟩⟩
      · rintro s' jj2
        refine letter fun Qg hg => ?_
        obtain ⟨h9, tk9, H, o2, size, low, tl, rfl, ⟨hHL, gH, hHZ, nH⟩, dL, m2, hvs, hn, oW2, heads, t2, F, ⟨ms, mh⟩, N1, eH, hW2, AH, okH, lenH, K⟩ := jj2
        refine hg ?_
        clear hg
        clear kF kN hoff F₀ hown
        refine join_cut (Jm := JM s₁ g h L lF lW D (listOf (List.toArray fvs) n) (listOf ys.toArray nD) oc5 oF oc3 oW I 3) ?_ ?_
        · obtain ⟨own, hown⟩ : ∃ own, restOf g h9 L (H :: ledZ L lF lW D) = own := ⟨_, rfl⟩
          have hoff : OwnOff own (H :: ledZ L lF lW D) := hown ▸ rest_off
          have N2 : News g L h9 ((H, listOf (List.toArray hvs) hn) :: led0 L lF lW D (listOf (List.toArray fvs) n) oW2 (listOf ys.toArray nD) oc5 oF oc3 o2 oW (tabObj #[])) := fun p hp => by
            rcases List.mem_cons.mp hp with hp | hp
            · rw [hp]; exact ⟨eH, hHL, gH⟩
            · exact N1 p hp
          have N : News g L h9 ((H, listOf (List.toArray hvs) hn) :: led0 L lF lW D (listOf (List.toArray fvs) n) oW2 (listOf ys.toArray nD) oc5 oF oc3 o2 oW (tabObj #[]) ++ own) := hown ▸ rest_news N2
          dsimp only [led0, List.cons_append, List.nil_append] at N
          dsimp only [ledZ] at hoff
          clear N1 N2
          have F₀ := And.intro F trivial
          with_unfolding_all refine For_H ?_ (by intro _; rfl) hPo
          refine ledZ_with hHZ ?_
          intro _ _ _ _ _ _ _ _ _
          w_strict k_steps
          (rename (IsRange _ _ _ _ _ _ _ _) => hRg)
          (with_reducible rename Fr _ _ _ _ => kF)
          (with_reducible rename News _ _ _ _ => kN)
          refine range_Z rfl hRg (by omega) (by omega) ?_
          intro I2 h2 nI2 up2 eI2
          dsimp only at nI2 up2
          have k0 := rest_kept F₀.1 kF kN (fun p hp => by rw [hown] at hp; k_ownIn)
          have hI2n : I2 ∉ L :: H :: ledZ L lF lW D := fun q => by
            rcases List.mem_cons.mp q with q | q
            · obtain ⟨o, e⟩ := fr_there kF
              rw [← q, nI2] at e; cases e
            · rcases List.mem_cons.mp q with q | q
              · have e := (kN _ (.head _)).1
                dsimp only at e
                rw [← q, nI2] at e; cases e
              · obtain ⟨o, ho⟩ := ledZ_mem q
                have e := (kN _ (.tail _ (List.mem_append_left own ho))).1
                dsimp only at e
                rw [nI2] at e; cases e
          have hI2o : h9.get? I2 = none := by
            cases q : h9.get? I2 with
            | none => rfl
            | some o => have := k0 I2 o hI2n q; rw [nI2] at this; cases this
          have gI2 : ∀ b ∈ [I2], b ≠ L ∧ g.get? b = none := fun b hb => by
            rw [List.mem_singleton.mp hb]
            exact ⟨(fun e => hI2n (e ▸ .head _)), up_none kF.keep nI2⟩
          have hI2h : h.get? I2 = none := by
            cases q : h.get? I2 with
            | none => rfl
            | some o =>
              have := K I2 o (fun q => hI2n (by
                rcases List.mem_cons.mp q with q | q
                · exact q ▸ .head _
                · exact .tail _ (.tail _ q))) q
              rw [hI2o] at this; cases this
          have hIn' : I ∉ L :: ledZ L lF lW D := fun q => by
            rcases List.mem_cons.mp q with q | q
            · exact (gI I (.head _)).1 q
            · exact hne _ q (.head _)
          have hIn : I ∉ L :: H :: ledZ L lF lW D := fun q => by
            rcases List.mem_cons.mp q with q | q
            · exact (gI I (.head _)).1 q
            · rcases List.mem_cons.mp q with q | q
              · obtain ⟨o, e⟩ := eI'
                rw [q, nH] at e; cases e
              · exact hne _ q (.head _)
          have kcut : ∀ h', Kept (L :: H :: ledZ L lF lW D) h9 h' → Kept (L :: ledZ L lF lW D) h h' := fun h' k b o hb e => k b o (fun q => by
            rcases List.mem_cons.mp q with q | q
            · exact hb (q ▸ .head _)
            · rcases List.mem_cons.mp q with q | q
              · rw [q, nH] at e; cases e
              · exact hb (.tail _ q)) (K b o hb e)
          have sub1 := sub_ins (L := L) (H := H) (Zs := ledZ L lF lW D) (ex := [I])
          have sub2 := sub_ins (L := L) (H := H) (Zs := ledZ L lF lW D) (ex := [I2, I])
          have hz := sub_new (L := L) (H := H) (Zs := ledZ L lF lW D) (I := I) hI2o
          refine ⟨fun i2 h' => JH g h L lF lW D (listOf (List.toArray fvs) n) (listOf ys.toArray nD) oc5 oF oc3 o2 oW H size [I2, I] (1 + i2) h', ⟨m2, hvs, hn, _, heads, t2, kF.keeps up2, ⟨ms, mh⟩, News.keepsUp (fun p hp => kN _ (.tail _ (List.mem_append_left own hp))) up2, up2 _ _ (kN _ (.head _)).1, by assumption, AH.imp fun v op r => r.up (fun b o e => hide_step (k0.up up2) sub1 hz b o e), okH, lenH, (kcut _ (k0.up up2))⟩, ?_, ?_, ?_⟩
          · rintro i2 h' h'' jj3 k
            refine letter fun Qg hg => ?_
            obtain ⟨m3, hvs3, hn3, oW3, heads3, t23, F3, ms3, N3, eH3, hW3, AH3, okH3, lenH3, K3⟩ := jj3
            refine hg ?_
            clear hg
            have hl : ∀ p ∈ led0 L lF lW D (listOf (List.toArray fvs) n) oW3 (listOf ys.toArray nD) oc5 oF oc3 o2 oW (tabObj #[]), p.1 ∉ [I2] := fun p hp q => hI2n (by
              rw [← List.mem_singleton.mp q]
              exact .tail _ (.tail _ (ledZ_of hp)))
            exact ⟨m3, hvs3, hn3, oW3, heads3, t23, Fr.after F3 k gI2, ms3, News.afterK N3 k hl, k _ _ (fun q => hI2n ((List.mem_singleton.mp q) ▸ (.tail _ (.head _)))) eH3, hW3, AH3.imp fun v op r => r.up (hide_step k (fun a ha => List.mem_append_right _ (.tail _ (by rw [List.mem_singleton.mp ha]; exact .head _))) (fun a ha => .inl ha)), okH3, lenH3, fun b o hb e => k _ _ (fun q => by rw [List.mem_singleton.mp q, hI2h] at e; cases e) (K3 b o hb e)⟩
          · rintro i2 t3 h3 tk3 KK2 hi2 jj4 eI23 hK2 hKr2
            refine letter fun Qg hg => ?_
            obtain ⟨m3, hvs3, hn3, oW3, heads3, t23, F, ⟨ms3, mh3⟩, N3, eH3, hW3, AH3, okH3, lenH3, K3⟩ := jj4
            refine hg ?_
            clear hg
            clear kF kN hoff F₀ hRg
            have N2 : News g L h3 ((H, listOf (List.toArray hvs3) hn3) :: led0 L lF lW D (listOf (List.toArray fvs) n) oW3 (listOf ys.toArray nD) oc5 oF oc3 o2 oW (tabObj #[])) := fun p hp => by
              rcases List.mem_cons.mp hp with hp | hp
              · rw [hp]; exact ⟨eH3, hHL, gH⟩
              · exact N3 p hp
            obtain ⟨own3, hown3⟩ : ∃ own, restOf g h3 L (H :: ledZ L lF lW D) = own := ⟨_, rfl⟩
            have hoff : OwnOff own3 (H :: ledZ L lF lW D) := hown3 ▸ rest_off
            have N : News g L h3 ((H, listOf (List.toArray hvs3) hn3) :: led0 L lF lW D (listOf (List.toArray fvs) n) oW3 (listOf ys.toArray nD) oc5 oF oc3 o2 oW (tabObj #[]) ++ own3) := hown3 ▸ rest_news N2
            dsimp only [led0, List.cons_append, List.nil_append] at N
            dsimp only [ledZ] at hoff
            have hvl : hvs3.length ≤ 5 := by have := AH3.length; omega
            clear N2 N3 hown
            have F₀ := And.intro F trivial
            w_strict k_steps
            unfold Held
            (with_reducible rename Fr _ _ _ _ => kF)
            (with_reducible rename News _ _ _ _ => kN)
            have qT := kN _ (.head _)
            refine kba_turn (value' := PySem.Expr.Name (PySem.Str.ofString "_") ⟨0, 0, 0, 0⟩) (fun _ => rfl) ?_
            refine tup_menu (names := [Str.ofString "offset", Str.ofString "register", Str.ofString "same_value", Str.ofString "val_offset"]) (isTup_of qT.1) (by assumption) (by simp only [List.length_cons, List.length_nil]; omega) (by simp only [List.length_cons, List.length_nil]; omega) ?_ ?_ (by with_unfolding_all rfl) (by intro _; with_unfolding_all rfl)
            · exact menu_of (by rfl)
            intro nm tn hnm
            have hnm2 : nm ∈ opNames := menu_ops hnm
            w_strict k_steps
            unfold Held
            (with_reducible rename Fr _ _ _ _ => FA)
            (with_reducible rename News _ _ _ _ => NA)
            have kA := rest_kept F₀.1 FA NA (fun p hp => by rw [hown3] at hp; k_ownIn)
            refine op_L (vs := ys) (ns := zs) B' FA X' T' rfl rfl (by k_room) NA (by k_updF) (by assumption) hDW (News.isList NA (by k_mem)) (by assumption) hlen hnm2 ?_
            intro v9 op9 h4 tk4 o4 hok9 hnm9 k4 F4 N4 W4 P4
            have kk4 : Kept (L :: H :: ledZ L lF lW D) h3 h4 := kA.trans (k4.mono fun a ha => by rw [List.mem_singleton.mp ha]; simp [ledZ])
            have hZ3 : ∀ a ∈ L :: ledZ L lF lW D ++ H :: [I2, I], ∃ o, Heap.get? _ a = some o := fun a ha => by
              rcases List.mem_append.mp ha with ha | ha
              · rcases List.mem_cons.mp ha with ha | ha
                · rw [ha]; exact fr_there FA
                · obtain ⟨o, ho⟩ := ledZ_mem ha
                  exact ⟨o, (NA _ (.tail _ (.tail _ (List.mem_append_left own3 ho)))).1⟩
              · rcases List.mem_cons.mp ha with ha | ha
                · rw [ha]; exact ⟨_, (NA _ (.tail _ (.head _))).1⟩
                · rcases List.mem_cons.mp ha with ha | ha
                  · obtain ⟨o, e⟩ := eI23
                    rw [ha]; exact ⟨o, kA _ _ hI2n e⟩
                  · rw [List.mem_singleton.mp ha]
                    obtain ⟨o, e⟩ := eI'
                    exact ⟨o, kA _ _ hIn (K3 _ _ hIn' e)⟩
            have P5 := P4 _ hZ3
            clear P4 hZ3
            have s4 := hide_step (Z := L :: ledZ L lF lW D ++ H :: [I2, I]) (Z' := L :: ledZ L lF lW D ++ H :: [I2, I]) kk4 sub2 (fun a ha => .inl ha)
            have AH4 := AH3.imp fun v op r => r.up s4
            obtain ⟨m5, F5, ms5, mh5⟩ : ∃ m, Fr g L h4 m ∧ m (Str.ofString "size") = some (.int size t23) ∧ m (Str.ofString "heads") = some (.ref H) := ⟨_, F4, ms3, mh3⟩
            have N5 : News g L h4 ((H, listOf (List.toArray hvs3) hn3) :: led0 L lF lW D (listOf (List.toArray fvs) n) o4 (listOf ys.toArray nD) oc5 oF oc3 o2 oW (tabObj #[])) := fun p hp => N4 _ (.tail _ (List.mem_append_left own3 hp))
            clear N4 F4 NA FA hoff F₀ hown3 s4 ms3 mh3
            obtain ⟨own4, hown4⟩ : ∃ own, restOf g h4 L (H :: ledZ L lF lW D) = own := ⟨_, rfl⟩
            have hoff : OwnOff own4 (H :: ledZ L lF lW D) := hown4 ▸ rest_off
            have N : News g L h4 ((H, listOf (List.toArray hvs3) hn3) :: led0 L lF lW D (listOf (List.toArray fvs) n) o4 (listOf ys.toArray nD) oc5 oF oc3 o2 oW (tabObj #[]) ++ own4) := hown4 ▸ rest_news N5
            dsimp only [led0, List.cons_append, List.nil_append] at N
            dsimp only [ledZ] at hoff
            clear N5
            have F₀ := And.intro F5 trivial
            w_strict k_steps
            (with_reducible rename Fr _ _ _ _ => kF9)
            (with_reducible rename News _ _ _ _ => kN9)
            have k9 := rest_kept F₀.1 kF9 kN9 (fun p hp => by rw [hown4] at hp; k_ownIn)
            have s9 := hide_step (Z := L :: ledZ L lF lW D ++ H :: [I2, I]) (Z' := L :: ledZ L lF lW D ++ H :: [I2, I]) k9 sub2 (fun a ha => .inl ha)
            have gH9 := (kN9 _ (.head _)).1
            rw [List.push_toArray] at gH9
            refine (hK2 _ _ ⟨m5, hvs3 ++ [v9], hn3 + 1, o4, heads3 ++ [op9], t23, kF9, ⟨ms5, mh5⟩, fun p hp => kN9 _ (.tail _ (List.mem_append_left own4 hp)), gH9, W4, (AH4.imp fun v op r => r.up s9).append (.cons (P5.up s9) .nil), ?_, ?_, ?_⟩ (fun o e => (kk4.trans k9) _ _ hI2n e)).1
            · intro op hop
              rcases List.mem_append.mp hop with hop | hop
              · exact okH3 op hop
              · rw [List.mem_singleton.mp hop]
                exact ⟨head_of (hnm9 ▸ hnm), hok9⟩
            · rw [List.length_append, List.length_singleton]; omega
            · exact fun b o hb e => (kk4.trans k9) b o (fun q => by
                rcases List.mem_cons.mp q with q | q
                · exact hb (q ▸ .head _)
                · rcases List.mem_cons.mp q with q | q
                  · rw [q, nH] at e; cases e
                  · exact hb (.tail _ q)) (K3 b o hb e)
          · rintro h' h'' tk' jj5 k
            refine letter fun Qg hg => ?_
            obtain ⟨m3, hvs3, hn3, oW3, heads3, t23, F3, ms3, N3, eH3, hW3, AH3, okH3, lenH3, K3⟩ := jj5
            refine hg ?_
            clear hg
            have hl : ∀ p ∈ led0 L lF lW D (listOf (List.toArray fvs) n) oW3 (listOf ys.toArray nD) oc5 oF oc3 o2 oW (tabObj #[]), p.1 ∉ [I2] := fun p hp q => hI2n (by
              rw [← List.mem_singleton.mp q]
              exact .tail _ (.tail _ (ledZ_of hp)))
            refine ⟨h'', tk', H, o2, size, low, tl, rfl, ⟨hHL, gH, hHZ, nH⟩, dL, m3, hvs3, hn3, oW3, heads3, t23, Fr.after F3 k gI2, ms3, News.afterK N3 k hl, k _ _ (fun q => hI2n ((List.mem_singleton.mp q) ▸ (.tail _ (.head _)))) eH3, hW3, AH3.imp fun v op r => r.up (hide_step k (fun a ha => List.mem_append_right _ (.tail _ (by rw [List.mem_singleton.mp ha]; exact .head _))) (fun a ha => .inl ?_)), okH3, by omega, fun b o hb e => k _ _ (fun q => by rw [List.mem_singleton.mp q, hI2h] at e; cases e) (K3 b o hb e)⟩
            exact sub_mid ha
        · rintro s' jj6
          refine letter fun Qg hg => ?_
          obtain ⟨h8, tk8, H, o2, size, low, tl, rfl, ⟨hHL, gH, hHZ, nH⟩, dL, m2, hvs, hn, oW2, heads, t2, F, ⟨ms, mh⟩, N1, eH, hW2, AH, okH, lenH, K⟩ := jj6
          refine hg ?_
          clear hg
          obtain ⟨own, hown⟩ : ∃ own, restOf g h8 L (H :: ledZ L lF lW D) = own := ⟨_, rfl⟩
          have hoff : OwnOff own (H :: ledZ L lF lW D) := hown ▸ rest_off
          have N2 : News g L h8 ((H, listOf (List.toArray hvs) hn) :: led0 L lF lW D (listOf (List.toArray fvs) n) oW2 (listOf ys.toArray nD) oc5 oF oc3 o2 oW (tabObj #[])) := fun p hp => by
            rcases List.mem_cons.mp hp with hp | hp
            · rw [hp]; exact ⟨eH, hHL, gH⟩
            · exact N1 p hp
          have N : News g L h8 ((H, listOf (List.toArray hvs) hn) :: led0 L lF lW D (listOf (List.toArray fvs) n) oW2 (listOf ys.toArray nD) oc5 oF oc3 o2 oW (tabObj #[]) ++ own) := hown ▸ rest_news N2
          dsimp only [led0, List.cons_append, List.nil_append] at N
          dsimp only [ledZ] at hoff
          clear N1 N2
          have F₀ := And.intro F trivial
          refine ledZ_with hHZ ?_
          intro _ _ _ _ _ _ _ _ _
          refine join_cut (Jm := JO s₁ g h L lF lW D (listOf (List.toArray fvs) n) (listOf ys.toArray nD) oc5 oF oc3 oW I) ?_ ?_
          · refine' comp_NA ?sw ?cl ?ce ?ki ?na ?_ (by intro _; rfl)
            case sw => exact rfl
            case cl => exact rfl
            case ce => decide
            case ki => exact rfl
            case na => decide
            w_strict k_steps
            (rename (IsRange _ _ _ _ _ _ _ _) => hRg)
            (with_reducible rename Fr _ _ _ _ => FN)
            (with_reducible rename News _ _ _ _ => NN)
            refine range_NZ rfl hRg (by omega) (by omega) ?_
            rintro fp2 wr2 h₂ jj7 C DD h₃ nC nDD neCD up3 exC eD3
            refine letter fun Qg hg => ?_
            obtain ⟨isrc2, iwr2, iup2, ithere2, ind2⟩ := jj7
            refine hg ?_
            clear hg
            dsimp only at iwr2 iup2
            have k0 := rest_kept F₀.1 FN NN (fun p hp => by rw [hown] at hp; k_ownIn)
            have oldN : ∀ b, (∃ o, Heap.get? _ b = some o) → b ∉ C :: DD :: wr2 := fun b hb q => by
              obtain ⟨o, e⟩ := hb
              rcases List.mem_cons.mp q with q | q
              · rw [← q, iup2 _ _ e] at nC; cases nC
              · rcases List.mem_cons.mp q with q | q
                · rw [← q, iup2 _ _ e] at nDD; cases nDD
                · rw [(iwr2 b q).2] at e; cases e
            have gn3 : ∀ b ∈ C :: DD :: wr2, b ≠ L ∧ g.get? b = none := fun b hb => by
              refine ⟨fun q => oldN b (q ▸ fr_there FN) hb, ?_⟩
              cases q : g.get? b with
              | none => rfl
              | some o => exact absurd hb (oldN b ⟨o, FN.keep _ _ q⟩)
            have up23 : Up _ h₃ := fun b o e => up3 _ _ (iup2 b o e)
            have offL : ∀ a ∈ L :: H :: ledZ L lF lW D, a ∉ C :: DD :: wr2 := fun a ha => by
              rcases List.mem_cons.mp ha with ha | ha
              · rw [ha]; exact oldN _ (fr_there FN)
              · rcases List.mem_cons.mp ha with ha | ha
                · rw [ha]; exact oldN _ ⟨_, (NN _ (.head _)).1⟩
                · obtain ⟨o, ho⟩ := ledZ_mem ha
                  exact oldN _ ⟨o, (NN _ (.tail _ (List.mem_append_left own ho))).1⟩
            refine ⟨fun i2 ys2 h4 => JP g h8 L lF lW D (listOf (List.toArray fvs) n) (listOf ys.toArray nD) oc5 oF oc3 o2 oW m2 H (listOf (List.toArray hvs) hn) (L :: ledZ L lF lW D ++ I :: H :: C :: DD :: wr2) i2 ys2 h4, ⟨_, [], FN.keeps up23, News.keepsUp (fun p hp => NN _ (.tail _ (List.mem_append_left own hp))) up23, up23 _ _ (NN _ (.head _)).1, by assumption, .nil, (fun op hop => by cases hop), rfl, k0.up up23⟩, ?_, ?_, ?_⟩
            · rintro i2 ys2 h4 h5 jj8 k ex
              refine letter fun Qg hg => ?_
              obtain ⟨oW4, ops4, F4, N4, eH4, hW4, A4, ok4, len4, K4⟩ := jj8
              refine hg ?_
              clear hg
              exact ⟨oW4, ops4, Fr.after F4 k gn3, News.afterK N4 k (fun p hp => offL _ (.tail _ (.tail _ (ledZ_of hp)))), k _ _ (offL _ (.tail _ (.head _))) eH4, hW4, A4.imp fun v op r => r.up (hide_step k (fun a ha => List.mem_append_right _ (.tail _ (.tail _ ha))) (fun a ha => .inl ha)), ok4, len4, fun b o hb e => k _ _ (oldN b ⟨o, k0 _ _ hb e⟩) (K4 b o hb e)⟩
            · rintro i2 ys2 v h4 tk4 m4 E4 hi2 ⟨t4, rfl⟩ jj9 hns hD4 hex4
              refine letter fun Qg hg => ?_
              obtain ⟨oW4, ops4, F4, N4, eH4, hW4, A4, ok4, len4, K4⟩ := jj9
              refine hg ?_
              clear hg
              refine single_C hns fun h5 tk5 oC m5 eC5 hC5 m5r k5 => ?_
              have offC : ∀ a ∈ L :: H :: ledZ L lF lW D, a ∉ [C] := fun a ha q => offL a ha (by rw [List.mem_singleton.mp q]; exact .head _)
              have F5 := Fr.after F4 k5 (fun a ha => gn3 a (by rw [List.mem_singleton.mp ha]; exact .head _))
              have N5 : News g L h5 ((H, listOf (List.toArray hvs) hn) :: led0 L lF lW D (listOf (List.toArray fvs) n) oW4 (listOf ys.toArray nD) oc5 oF oc3 o2 oW (tabObj #[])) := fun p hp => by
                rcases List.mem_cons.mp hp with hp | hp
                · rw [hp]; exact ⟨k5 _ _ (offC _ (.tail _ (.head _))) eH4, hHL, gH⟩
                · exact News.afterK N4 k5 (fun p hp => offC _ (.tail _ (.tail _ (ledZ_of hp)))) p hp
              clear N hoff F₀ FN NN F hown
              obtain ⟨own5, hown5⟩ : ∃ own, restOf g h5 L (H :: ledZ L lF lW D) = own := ⟨_, rfl⟩
              have hoff : OwnOff own5 (H :: ledZ L lF lW D) := hown5 ▸ rest_off
              have N : News g L h5 ((H, listOf (List.toArray hvs) hn) :: led0 L lF lW D (listOf (List.toArray fvs) n) oW4 (listOf ys.toArray nD) oc5 oF oc3 o2 oW (tabObj #[]) ++ own5) := hown5 ▸ rest_news N5
              dsimp only [led0, List.cons_append, List.nil_append] at N
              dsimp only [ledZ] at hoff
              clear N5 N4 F4
              have F₀ := And.intro F5 trivial
              w_strict k_steps
              unfold Held
              (with_reducible rename Fr _ _ _ _ => FA)
              (with_reducible rename News _ _ _ _ => NA)
              have eT := (X'.keeps FA.keep) 187 _ (by k_is)
              refine tup_menu (names := opNames) ⟨_, eT, rfl, _, rfl⟩ (by assumption) (by simp only [List.length_cons, List.length_nil]; omega) (by simp only [List.length_cons, List.length_nil]; omega) ?_ ?_ (by with_unfolding_all rfl) (by intro _; with_unfolding_all rfl)
              · exact menu_of (by rfl)
              intro nm tn hnm2
              clear eT
              w_strict k_steps
              unfold Held
              (with_reducible rename Fr _ _ _ _ => FB)
              (with_reducible rename News _ _ _ _ => NB)
              have kB := rest_kept F₀.1 FB NB (fun p hp => by rw [hown5] at hp; k_ownIn)
              refine op_L (vs := ys) (ns := zs) B' FB X' T' rfl rfl (by k_room) NB (by k_updF) (by assumption) hDW (News.isList NB (by k_mem)) (by assumption) hlen hnm2 ?_
              intro v9 op9 h6 tk6 o6 hok9 hnm9 k6 F6 N6 W6 P6
              have dB : ∀ a ∈ C :: DD :: wr2, ∃ o, Heap.get? _ a = some o := fun a ha => by
                obtain ⟨o, e⟩ := hex4 a (by
                  rcases List.mem_cons.mp ha with ha | ha
                  · exact ha ▸ .head _
                  · rcases List.mem_cons.mp ha with ha | ha
                    · exact ha ▸ .tail _ (.head _)
                    · exact .tail _ (.tail _ (iwr2 a ha).1))
                rcases Decidable.em (a = C) with q | q
                · exact ⟨_, kB a _ (fun z => offL a z ha) (q ▸ eC5)⟩
                · exact ⟨_, kB a _ (fun z => offL a z ha) (k5 a o (fun z => q (List.mem_singleton.mp z)) e)⟩
              have kk6 : Kept (L :: H :: ledZ L lF lW D) h5 h6 := kB.trans (k6.mono fun a ha => by rw [List.mem_singleton.mp ha]; simp [ledZ])
              have kk4 : Kept (C :: L :: H :: ledZ L lF lW D) h4 h6 := (k5.mono fun a ha => List.mem_singleton.mp ha ▸ .head _).trans (kk6.mono fun a ha => .tail _ ha)
              have P7 := P6 (L :: ledZ L lF lW D ++ I :: H :: C :: DD :: wr2) (fun a ha => by
                rcases List.mem_append.mp ha with ha | ha
                · rcases List.mem_cons.mp ha with ha | ha
                  · rw [ha]; exact fr_there FB
                  · obtain ⟨o, ho⟩ := ledZ_mem ha
                    exact ⟨o, (NB _ (.tail _ (List.mem_append_left own5 ho))).1⟩
                · rcases List.mem_cons.mp ha with ha | ha
                  · obtain ⟨o, e⟩ := eI'
                    have hIh : I ∉ L :: H :: ledZ L lF lW D := fun q => by
                      rcases List.mem_cons.mp q with q | q
                      · exact (gI I (.head _)).1 q
                      · rcases List.mem_cons.mp q with q | q
                        · rw [q, nH] at e; cases e
                        · exact hne _ q (.head _)
                    have e8 := K _ _ (fun q => by
                      rcases List.mem_cons.mp q with q | q
                      · exact (gI I (.head _)).1 q
                      · exact hne _ q (.head _)) e
                    have nIC := oldN I ⟨_, k0 _ _ hIh e8⟩
                    rw [ha]
                    exact ⟨_, kB _ _ hIh (k5 _ _ (fun z => nIC (List.mem_singleton.mp z ▸ .head _)) (K4 _ _ hIh e8))⟩
                  · rcases List.mem_cons.mp ha with ha | ha
                    · rw [ha]; exact ⟨_, (NB _ (.head _)).1⟩
                    · exact dB a ha)
              have sZ := sub_CL (C := C) (L := L) (H := H) (Zs := ledZ L lF lW D) (I := I) (DD := DD) (wr := wr2)
              have J7 : JP g h8 L lF lW D (listOf (List.toArray fvs) n) (listOf ys.toArray nD) oc5 oF oc3 o2 oW m2 H (listOf (List.toArray hvs) hn) (L :: ledZ L lF lW D ++ I :: H :: C :: DD :: wr2) (i2 + 1) (ys2 ++ [v9]) h6 := by
                refine ⟨o6, ops4 ++ [op9], F6, fun p hp => N6 _ (.tail _ (List.mem_append_left own5 hp)), (N6 _ (.head _)).1, W6, (A4.imp fun v op r => r.up (hide_step kk4 sZ (fun a ha => .inl ha))).append (.cons P7 .nil), ?_, ?_, ?_⟩
                · intro op hop
                  rcases List.mem_append.mp hop with hop | hop
                  · exact ok4 op hop
                  · rw [List.mem_singleton.mp hop]; exact hok9
                · rw [List.length_append, List.length_singleton, len4]
                · intro b o hb e
                  exact kk6 _ _ hb (k5 _ _ (fun z => oldN b ⟨_, k0 _ _ hb e⟩ (List.mem_singleton.mp z ▸ .head _)) (K4 b o hb e))
              refine ⟨h6, _, rfl, J7, ?_, ?_, ?_⟩
              · exact kk6 _ _ (fun z => offL DD z (.tail _ (.head _))) (k5 _ _ (fun z => neCD (List.mem_singleton.mp z).symm) hD4)
              · exact ⟨_, hC5.ns (kk6 _ _ (fun z => offL C z (.head _)) eC5)⟩
              · intro b hb o e
                have hbw := (isrc2 b hb).resolve_left (fun q => by cases q)
                exact kk6 _ _ (fun z => offL b z (.tail _ (.tail _ hbw))) (k5 _ _ (fun z => by
                  obtain ⟨o2, e2⟩ := ithere2 b hb
                  rw [List.mem_singleton.mp z, nC] at e2; cases e2) e)
            · rintro ys2 h4 h5 tk5 jj10 hD4 k5 hyl hCn
              refine letter fun Qg hg => ?_
              obtain ⟨oW4, ops4, F4, N4, eH4, hW4, A4, ok4, len4, K4⟩ := jj10
              refine hg ?_
              clear hg
              have subw : ∀ a ∈ wr2, a ∈ C :: DD :: wr2 := fun a ha => .tail _ (.tail _ ha)
              refine' store_nm (Fr.after F4 k5 (fun a ha => gn3 a (subw a ha))) ?sa ?sb ?sc ?_
              case sa => rfl
              case sb => rfl
              case sc => rfl
              intro h6a F6a k6a
              obtain ⟨mC, nC6, fin6⟩ := store_fin F6a hCn k6a (gn3 C (.head _)).1 (gn3 C (.head _)).2
              refine ⟨mC, nC6, fun h6 hs6 => ?_⟩
              obtain ⟨F6, k6⟩ := fin6 h6 hs6
              clear hs6 nC6 fin6 F6a k6a
              dsimp only
              unfold Held
              have kk6 : Kept (L :: C :: wr2) h4 h6 := (k5.mono fun a ha => .tail _ (.tail _ ha)).trans (k6.mono fun a ha => by
                rcases List.mem_cons.mp ha with ha | ha
                · exact ha ▸ .head _
                · exact List.mem_singleton.mp ha ▸ .tail _ (.head _))
              have offL6 : ∀ a ∈ H :: ledZ L lF lW D, a ∉ L :: C :: wr2 := fun a ha z => by
                rcases List.mem_cons.mp z with z | z
                · rcases List.mem_cons.mp ha with ha | ha
                  · exact hHL (ha ▸ z)
                  · obtain ⟨o, ho⟩ := ledZ_mem ha
                    exact (N4 _ ho).2.1 z
                · refine offL a (.tail _ ha) ?_
                  rcases List.mem_cons.mp z with z | z
                  · exact z ▸ .head _
                  · exact .tail _ (.tail _ z)
              have nDl : DD ∉ L :: C :: wr2 := fun z => by
                rcases List.mem_cons.mp z with z | z
                · exact (gn3 DD (.tail _ (.head _))).1 z
                · rcases List.mem_cons.mp z with z | z
                  · exact neCD z.symm
                  · obtain ⟨o, e⟩ := ithere2 DD (iwr2 DD z).1
                    rw [nDD] at e; cases e
              have k86 : Kept (L :: H :: ledZ L lF lW D) h8 h6 := fun b o hb e => kk6 _ _ (fun z => by
                rcases List.mem_cons.mp z with z | z
                · exact hb (z ▸ .head _)
                · refine oldN b ⟨_, k0 _ _ hb e⟩ ?_
                  rcases List.mem_cons.mp z with z | z
                  · exact z ▸ .head _
                  · exact .tail _ (.tail _ z)) (K4 b o hb e)
              refine ⟨h6, _, H, o2, size, low, tl, _, hvs, hn, oW4, heads, t2, DD, ys2, ys2.length, ops4, rfl, ⟨hHL, gH, hHZ, nH⟩, ⟨(gn3 DD (.tail _ (.head _))).1, (gn3 DD (.tail _ (.head _))).2, fun z => offL DD (.tail _ (.tail _ z)) (.tail _ (.head _)), ?_⟩, dL, F6, ⟨?_, ?_, ?_⟩, News.afterK N4 kk6 (fun p hp => offL6 _ (.tail _ (ledZ_of hp))), kk6 _ _ (offL6 _ (.head _)) eH4, kk6 _ _ nDl hD4, hW4, AH.imp fun v op r => r.up (hide_step k86 ?_ (fun a ha => .inl ?_)), okH, lenH, A4.imp fun v op r => r.up (hide_step kk6 ?_ (fun a ha => .inl ?_)), ok4, by omega, ?_⟩
              · cases q : h.get? DD with
                | none => rfl
                | some o =>
                  have nL9 : DD ∉ L :: ledZ L lF lW D := fun z => offL DD (by
                    rcases List.mem_cons.mp z with z | z
                    · exact z ▸ .head _
                    · exact .tail _ (.tail _ z)) (.tail _ (.head _))
                  exact absurd (.tail _ (.head _)) (oldN DD ⟨_, k0 _ _ (fun z => offL DD z (.tail _ (.head _))) (K _ _ nL9 q)⟩)
              · rw [if_neg (by decide)]; exact ms
              · rw [if_neg (by decide)]; exact mh
              · exact if_pos rfl
              · exact sub_ins
              · exact sub_I1 ha
              · exact sub_LC
              · exact sub_I2 ha
              · exact fun b o hb e => k86 b o (fun q => by
                  rcases List.mem_cons.mp q with q | q
                  · exact hb (q ▸ .head _)
                  · rcases List.mem_cons.mp q with q | q
                    · rw [q, nH] at e; cases e
                    · exact hb (.tail _ q)) (K b o hb e)
          · rintro s' jj11
            refine letter fun Qg hg => ?_
            obtain ⟨h7, tk7, H, o2, size, low, tl, m2, hvs, hn, oW2, heads, t2, P, pvs, pn, ops, rfl, ⟨hHL, gH, hHZ, nH⟩, ⟨hPL, gP, hPZ, nP⟩, dL, F, ⟨ms, mh, mo⟩, N1, eH, eP, hW2, AH, okH, lenH, AP, okP, lenP, K⟩ := jj11
            refine hg ?_
            clear hg
            clear hoff F₀ hown N
            obtain ⟨own, hown⟩ : ∃ own, restOf g h7 L (ledZ L lF lW D) = own := ⟨_, rfl⟩
            have hoff : OwnOff own (ledZ L lF lW D) := hown ▸ rest_off
            have N : News g L h7 (led0 L lF lW D (listOf (List.toArray fvs) n) oW2 (listOf ys.toArray nD) oc5 oF oc3 o2 oW (tabObj #[]) ++ own) := hown ▸ rest_news N1
            dsimp only [led0, List.cons_append, List.nil_append] at N
            dsimp only [ledZ] at hoff
            clear N1
            have hfl : fvs.length ≤ 5 := by have := A.length; omega
            have F₀ := And.intro F trivial
            w_strict k_steps
            rename_i X1 d1 u1 la1 la2 u2 u3 u4 u5 u6 u7 u8 u9 uA uB uC uD uE uF uG uH uI v1 v2 v3 X2 d2 uJ lb1 lb2 uK uL c1 c2 c3 c4 c6 c7 c8 c9 cA cB cC cD v4 v5 v6 h10 F9 N9
            have k9 := rest_kept F₀.1 F9 N9 (fun p hp => by rw [hown] at hp; k_ownIn)
            have q1 := N9 _ (.head _)
            have q2 := N9 _ (.tail _ (.head _))
            have q3 := N9 _ (.tail _ (.tail _ (.head _)))
            have q4 := N9 _ (.tail _ (.tail _ (.tail _ (.head _))))
            clear F₀
            obtain ⟨oI, eI7⟩ : ∃ o, h7.get? I = some o := by
              obtain ⟨o, e⟩ := eI'
              exact ⟨o, K I o (fun q => by
                rcases List.mem_cons.mp q with q | q
                · exact (gI I (.head _)).1 q
                · exact hne _ q (.head _)) e⟩
            have hIn : I ∉ L :: ledZ L lF lW D := fun q => by
              rcases List.mem_cons.mp q with q | q
              · exact (gI I (.head _)).1 q
              · exact hne _ q (.head _)
            have mI : (I, oI) ∈ own := hown ▸ mem_restOf.mpr ⟨eI7, (gI I (.head _)).1, (fun q => hne _ q (.head _)), (gI I (.head _)).2⟩
            have ltI : @LT.lt Nat _ I d1 := allLt_mem la1.2.2.2.2.2.2.2.2.2 mI
            have nI9 : ∀ X : Nat, @LT.lt Nat _ I X → X ≠ I := fun X hX => Ne.symm (Nat.ne_of_lt hX)
            have z1 : d1 ∉ ledZ L lF lW D := above_led ⟨la1.1, la1.2.1, la1.2.2.1, la1.2.2.2.1, la1.2.2.2.2.2.2.2.2.1⟩
            have z2 : X1 ∉ ledZ L lF lW D := above_trans ⟨la1.1, la1.2.1, la1.2.2.1, la1.2.2.2.1, la1.2.2.2.2.2.2.2.2.1⟩ la2
            have z3 : d2 ∉ ledZ L lF lW D := above_led ⟨lb1.2.2.1, lb1.2.2.2.1, lb1.2.2.2.2.1, lb1.2.2.2.2.2.1, lb1.2.2.2.2.2.2.2.2.2.2.1⟩
            have z4 : X2 ∉ ledZ L lF lW D := above_trans ⟨lb1.2.2.1, lb1.2.2.2.1, lb1.2.2.2.2.1, lb1.2.2.2.2.2.1, lb1.2.2.2.2.2.2.2.2.2.2.1⟩ lb2
            have offZ : ∀ X : Nat, X ≠ L → X ∉ ledZ L lF lW D → X ≠ I → X ∉ L :: ledZ L lF lW D ++ [I] := fun X x1 x2 x3 q => by
              rcases List.mem_append.mp q with q | q
              · rcases List.mem_cons.mp q with q | q
                · exact x1 q
                · exact x2 q
              · exact x3 (List.mem_singleton.mp q)
            have hHI : H ≠ I := fun q => by
              obtain ⟨o, e⟩ := eI'
              rw [← q, nH] at e; cases e
            have hPI : P ≠ I := fun q => by
              obtain ⟨o, e⟩ := eI'
              rw [← q, nP] at e; cases e
            have kO : ∀ X o, X ≠ L → X ∉ ledZ L lF lW D → h7.get? X = some o → h10.get? X = some o := fun X o x1 x2 e => k9 X o (fun q => (List.mem_cons.mp q).elim x1 x2) e
            have kall : Kept (L :: ledZ L lF lW D) h h10 := K.trans k9
            have sZ9 : ∀ a ∈ L :: ledZ L lF lW D, a ∈ L :: ledZ L lF lW D ++ [I] := fun a ha => List.mem_append_left _ ha
            have s9 := hide_step (Z := L :: ledZ L lF lW D ++ [I]) (Z' := L :: ledZ L lF lW D ++ [I]) k9 sZ9 (fun a ha => .inl ha)
            have sA := hide_step (Z := L :: ledZ L lF lW D ++ [I]) (Z' := L :: ledZ L lF lW D ++ [I]) kall sZ9 (fun a ha => .inl ha)
            have new9 : FdeIn (hideAll h10 (L :: ledZ L lF lW D ++ [I])) X2 ⟨low, size, heads, ops⟩ :=
              ⟨d2, X1, d1, H, P, (_, _), (_, _), (_, _), (_, _), (_, _), (_, _), (_, _), (_, _), _, _, _, _, _, _, _, _, _, _, _,
                hideAll_get _ q1.1 (offZ _ q1.2.1 z4 (nI9 _ (Nat.lt_trans (Nat.lt_trans ltI lb1.2.1) lb2))), hideAll_get _ q2.1 (offZ _ q2.2.1 z3 (nI9 _ (Nat.lt_trans ltI lb1.2.1))), hideAll_get _ q3.1 (offZ _ q3.2.1 z2 (nI9 _ (Nat.lt_trans ltI la2))), hideAll_get _ q4.1 (offZ _ q4.2.1 z1 (nI9 _ ltI)),
                hideAll_get _ (kO _ _ hHL hHZ eH) (offZ _ hHL hHZ hHI), hideAll_get _ (kO _ _ hPL hPZ eP) (offZ _ hPL hPZ hPI), ops_up s9 AH, ops_up s9 AP⟩
            refine (hK _ _ ⟨m2, fvs ++ [.ref X2], n + 1, oW2, o2, _, fs ++ [⟨low, size, heads, ops⟩], F9, ?_, hW2, dL, (fdes_up sA A).append (.cons ⟨X2, rfl, new9⟩ .nil), ?_, ?_, .inr ⟨_, ms⟩⟩ (fun o e => ?_)).1
            · rw [List.push_toArray] at N9
              exact fun p hp => N9 _ (.tail _ (.tail _ (.tail _ (.tail _ (List.mem_append_left own hp)))))
            · intro f hf
              rcases List.mem_append.mp hf with hf | hf
              · exact ok f hf
              · rw [List.mem_singleton.mp hf]
                exact ⟨okH, okP, by dsimp only; omega, by dsimp only; omega⟩
            · rw [List.length_append, List.length_singleton, hl]
            · exact kall I o hIn e
    · intro h h' tk J k
      exact ⟨h', tk, _, rfl, by omega, by omega, J.done k gI hne⟩
  · clear F N1
    rintro s' jj12
    refine letter fun Qg hg => ?_
    obtain ⟨h, tk, i, rfl, hi1, hi3, m, fvs, n, oW9, o2, x2, fs, F, N1, hW9, d2', A, ok, hl, hz⟩ := jj12
    refine hg ?_
    clear hg
    obtain ⟨vz, mz⟩ : ∃ v, m (Str.ofString "size") = some v := hz.resolve_left (by omega)
    clear hz
    obtain ⟨own, hown⟩ : ∃ own, restOf g h L (ledZ L lF lW D) = own := ⟨_, rfl⟩
    have hoff : OwnOff own (ledZ L lF lW D) := hown ▸ rest_off
    have N : News g L h (led0 L lF lW D (listOf (List.toArray fvs) n) oW9 (listOf ys.toArray nD) oc5 oF oc3 o2 oW (tabObj #[]) ++ own) := hown ▸ rest_news N1
    dsimp only [led0, List.cons_append, List.nil_append] at N
    dsimp only [ledZ] at hoff
    have hfl : fvs.length ≤ 5 := by have := A.length; omega
    have F₀ := And.intro F trivial
    refine join_cut (Jm := JL (Str.ofString "law.<locals>.<lambda>") w s₁ g L lF oF) ?_ ?_
    · refine' comp_NA ?sw2 ?cl2 ?ce2 ?ki2 ?na2 ?_ (by intro _; rfl)
      case sw2 => exact rfl
      case cl2 => exact rfl
      case ce2 => decide
      case ki2 => exact rfl
      case na2 => decide
      walk1
      have eL0 : h.IsList lF fvs.toArray := ⟨_, (N _ (.head _)).1, rfl, n, rfl⟩
      refine list_NFA (vs := fvs) rfl eL0 (by rw [sizeLine_eq]; omega) ?_
      rintro fp2 wr2 h₂ jj13 C DD h₃ nC nDD neCD up3 exC eD3
      refine letter fun Qg hg => ?_
      obtain ⟨isrc2, iwr2, iup2, ithere2, ind2⟩ := jj13
      refine hg ?_
      clear hg
      dsimp only at iwr2 iup2
      clear N hoff hown F₀
      have oldN : ∀ b, (∃ o, Heap.get? h b = some o) → b ∉ C :: DD :: wr2 := fun b hb q => by
        obtain ⟨o, e⟩ := hb
        rcases List.mem_cons.mp q with q | q
        · rw [← q, iup2 _ _ e] at nC; cases nC
        · rcases List.mem_cons.mp q with q | q
          · rw [← q, iup2 _ _ e] at nDD; cases nDD
          · rw [(iwr2 b q).2] at e; cases e
      have gn3 : ∀ b ∈ C :: DD :: wr2, b ≠ L ∧ g.get? b = none := fun b hb => by
        refine ⟨fun q => oldN b (q ▸ fr_there F) hb, ?_⟩
        cases q : g.get? b with
        | none => rfl
        | some o => exact absurd hb (oldN b ⟨o, F.keep _ _ q⟩)
      have up23 : Up h h₃ := fun b o e => up3 _ _ (iup2 b o e)
      have offL : ∀ a ∈ L :: ledZ L lF lW D, a ∉ C :: DD :: wr2 := fun a ha => by
        rcases List.mem_cons.mp ha with ha | ha
        · rw [ha]; exact oldN _ (fr_there F)
        · obtain ⟨o, ho⟩ := ledZ_mem ha
          exact oldN _ ⟨o, (N1 _ ho).1⟩
      have subZ : ∀ a ∈ L :: ledY L lF DD, a ∈ L :: ledZ L lF lW D ∨ a = DD := fun a ha => by
        simp only [ledY, ledZ, List.mem_cons, List.not_mem_nil, or_false] at ha ⊢
        rcases ha with q | q | q | q | q | q | q <;> simp [q]
      have sW : ∀ a ∈ C :: DD :: wr2, a ∈ L :: ledY L lF DD ++ C :: wr2 := fun a ha => by
        rcases List.mem_cons.mp ha with ha | ha
        · rw [ha]; exact List.mem_append_right _ (.head _)
        · rcases List.mem_cons.mp ha with ha | ha
          · rw [ha]; exact List.mem_append_left _ (.tail _ (.tail _ (.head _)))
          · exact List.mem_append_right _ (.tail _ ha)
      have hno : ∀ a ∈ C :: DD :: wr2, h.get? a = none := fun a ha => by
        cases q : h.get? a with
        | none => rfl
        | some o => exact absurd ha (oldN a ⟨o, q⟩)
      have A0 : All2 (FdeAt (hideAll h₃ (L :: ledY L lF DD ++ C :: wr2))) fvs fs := fdes_up (hide_step (as := []) (fun b o _ e => up23 b o e) (fun a ha => by cases ha) (fun a ha => by
        rcases List.mem_append.mp ha with ha | ha
        · rcases subZ a ha with q | q
          · exact .inl (List.mem_append_left _ q)
          · exact .inr (hno a (q ▸ .tail _ (.head _)))
        · rcases List.mem_cons.mp ha with ha | ha
          · exact .inr (hno a (ha ▸ .head _))
          · exact .inr (hno a (.tail _ (.tail _ ha))))) A
      refine ⟨fun i2 ys2 h4 => Fr g L h4 m ∧ News g L h4 (led0 L lF lW D (listOf (List.toArray fvs) n) oW9 (listOf ys.toArray nD) oc5 oF oc3 o2 oW (tabObj #[])) ∧ All2 (FdeAt (hideAll h4 (L :: ledY L lF DD ++ C :: wr2))) fvs fs ∧ All2 (LotVal w (hideAll h4 (L :: ledY L lF DD ++ C :: wr2))) ys2 ((fs.map lawRows).take i2), ⟨F.keeps up23, News.keepsUp N1 up23, A0, .nil⟩, ?_, ?_, ?_⟩
      · rintro i2 ys2 h4 h5 jj14 k ex
        refine letter fun Qg hg => ?_
        obtain ⟨F4, N4, A4, V4⟩ := jj14
        refine hg ?_
        clear hg
        have u := hide_step (Z := L :: ledY L lF DD ++ C :: wr2) (Z' := L :: ledY L lF DD ++ C :: wr2) k sW (fun a ha => .inl ha)
        exact ⟨Fr.after F4 k gn3, News.afterK N4 k (fun p hp => offL _ (.tail _ (ledZ_of hp))), fdes_up u A4, lotvals_up u V4⟩
      · rintro i2 ys2 v h4 tk4 m4 E4 hi2 hv jj15 hns hD4 hex4 hfl4
        refine letter fun Qg hg => ?_
        obtain ⟨F4, N4, A4, V4⟩ := jj15
        refine hg ?_
        clear hg
        refine letter fun Qg hg => ?_
        obtain ⟨f, hfi, a, rfl, hfd⟩ := A4.get hv
        refine hg ?_
        clear hg
        refine single_C hns fun h5 tk5 oC m5 eC5 hC5 m5r k5 => ?_
        have F5 := Fr.after F4 k5 (fun a ha => gn3 a (by rw [List.mem_singleton.mp ha]; exact .head _))
        have N5 := News.afterK N4 k5 (fun p hp q => offL _ (.tail _ (ledZ_of hp)) (by rw [List.mem_singleton.mp q]; exact .head _))
        have sC : ∀ a ∈ [C], a ∈ L :: ledY L lF DD ++ C :: wr2 := fun a ha => sW a (by rw [List.mem_singleton.mp ha]; exact .head _)
        have hfd5 : FdeIn h5 a f := hfd.up ((hide_step (Z := L :: ledY L lF DD ++ C :: wr2) (Z' := L :: ledY L lF DD ++ C :: wr2) k5 sC (fun a ha => .inl ha)).trans hide_out)
        have hD5 := k5 _ _ (fun z => neCD (List.mem_singleton.mp z).symm) hD4
        clear N1 F
        w_strict k_steps
        unfold Held
        refine rows_h B' F5 X' T' rfl rfl (by k_room) (by units_room) hfd5 ⟨Nat.le_trans (ok f (List.mem_of_getElem? hfi)).nh (by decide), Nat.le_trans (ok f (List.mem_of_getElem? hfi)).no (by decide)⟩ ?_
        intro v6 h6 tk6 up6 r6
        have k46 : Kept [C] h4 h6 := k5.up up6
        have u := hide_step (Z := L :: ledY L lF DD ++ C :: wr2) (Z' := L :: ledY L lF DD ++ C :: wr2) k46 sC (fun a ha => .inl ha)
        refine ⟨h6, _, rfl, ⟨F5.keeps up6, News.keepsUp N5 up6, fdes_up u A4, ?_⟩, up6 _ _ hD5, ⟨_, hC5.ns (up6 _ _ eC5)⟩, fun b hb o e => up6 _ _ (k5 _ _ (fun z => ?_) e)⟩
        · rw [take_snoc (x := lawRows f) (by rw [List.getElem?_map, hfi]; rfl)]
          refine (lotvals_up u V4).append (.cons (r6.hide up6 fun a ha => ?_) .nil)
          rcases List.mem_append.mp ha with ha | ha
          · simp only [ledY, List.mem_cons, List.not_mem_nil, or_false] at ha
            rcases ha with ha | ha | ha | ha | ha | ha | ha
            · rw [ha]; exact noLot_ns F5.ns mz
            · rw [ha]; exact noLot_list (N5 _ (.head _)).1
            · rw [ha]; exact noLot_list hD5
            · rw [ha]; exact noLot_cell (N5 _ (.tail _ (.tail _ (.tail _ (.head _))))).1 d5
            · rw [ha]; exact noLot_cell (N5 _ (.tail _ (.tail _ (.tail _ (.tail _ (.head _)))))).1 dF
            · rw [ha]; exact noLot_cell (N5 _ (.tail _ (.tail _ (.tail _ (.tail _ (.tail _ (.head _))))))).1 d3
            · rw [ha]; exact noLot_fields (N5 _ (.tail _ (.tail _ (.tail _ (.tail _ (.tail _ (.tail _ (.tail _ (.tail _ (.head _)))))))))).1 rfl
          · rcases List.mem_cons.mp ha with ha | ha
            · rw [ha]; exact noLot_ns (hC5.ns eC5) m5r
            · obtain ⟨o, e⟩ := hex4 a (.tail _ (.tail _ (iwr2 a ha).1))
              obtain ⟨vs, hd⟩ := hfl4 a ha o e
              refine noLot_fields (k5 _ _ (fun z => ?_) e) hd
              obtain ⟨o2, e2⟩ := ithere2 a (iwr2 a ha).1
              rw [List.mem_singleton.mp z, nC] at e2; cases e2
        · obtain ⟨o2, e2⟩ := ithere2 b hb
          rw [List.mem_singleton.mp z, nC] at e2; cases e2
      · rintro ys2 h4 h5 tk5 jj16 hD4 k5 hyl hCn
        refine letter fun Qg hg => ?_
        obtain ⟨F4, N4, A4, V4⟩ := jj16
        refine hg ?_
        clear hg
        have subw : ∀ a ∈ wr2, a ∈ C :: DD :: wr2 := fun a ha => .tail _ (.tail _ ha)
        refine' store_nm (Fr.after F4 k5 (fun a ha => gn3 a (subw a ha))) ?sd ?se ?sf ?_
        case sd => rfl
        case se => rfl
        case sf => rfl
        intro h6a F6a k6a
        obtain ⟨mC, nC6, fin6⟩ := store_fin F6a hCn k6a (gn3 C (.head _)).1 (gn3 C (.head _)).2
        refine ⟨mC, nC6, fun h6 hs6 => ?_⟩
        obtain ⟨F6, k6⟩ := fin6 h6 hs6
        clear hs6 nC6 fin6 F6a k6a
        dsimp only
        unfold Held
        have kk6 : Kept (L :: C :: wr2) h4 h6 := (k5.mono fun a ha => .tail _ (.tail _ ha)).trans (k6.mono fun a ha => by
          rcases List.mem_cons.mp ha with ha | ha
          · exact ha ▸ .head _
          · exact List.mem_singleton.mp ha ▸ .tail _ (.head _))
        have offL6 : ∀ a ∈ ledZ L lF lW D, a ∉ L :: C :: wr2 := fun a ha z => by
          rcases List.mem_cons.mp z with z | z
          · obtain ⟨o, ho⟩ := ledZ_mem ha
            exact (N4 _ ho).2.1 z
          · refine offL a (.tail _ ha) ?_
            rcases List.mem_cons.mp z with z | z
            · exact z ▸ .head _
            · exact .tail _ (.tail _ z)
        have nDl : DD ∉ L :: C :: wr2 := fun z => by
          rcases List.mem_cons.mp z with z | z
          · exact (gn3 DD (.tail _ (.head _))).1 z
          · rcases List.mem_cons.mp z with z | z
            · exact neCD z.symm
            · obtain ⟨o, e⟩ := ithere2 DD (iwr2 DD z).1
              rw [nDD] at e; cases e
        have nDZ : DD ∉ ledZ L lF lW D := fun z => offL DD (.tail _ z) (.tail _ (.head _))
        have u := hide_step (Z := L :: ledY L lF DD ++ C :: wr2) (Z' := L :: ledY L lF DD ++ []) kk6 (fun a ha => by
          rcases List.mem_cons.mp ha with ha | ha
          · rw [ha]; exact List.mem_append_left _ (.head _)
          · exact List.mem_append_right _ ha) (fun a ha => .inl (List.mem_append_left _ (by rwa [List.append_nil] at ha)))
        rw [A.length, ← List.length_map (f := lawRows), List.take_length] at V4
        have N6 := News.afterK N4 kk6 (fun p hp => offL6 _ (ledZ_of hp))
        refine ⟨h6, _, DD, fvs, n, ys2, ys2.length, fs, rfl, ?_, ⟨_, oc3, oc5, none, none, #[], F6, if_pos rfl, ?_, d3, d5, fdes_up u A4, lotvals_up u V4, ⟨trivial, fun pos cv e => by cases e⟩⟩, ok, by omega⟩
        · intro z
          refine nDZ ?_
          simp only [ledZ, List.mem_cons, List.not_mem_nil, or_false] at z ⊢
          rcases z with q | q | q | q | q <;> simp [q]
        · intro p hp
          simp only [led6, List.mem_cons, List.not_mem_nil, or_false] at hp
          rcases hp with rfl | rfl | rfl | rfl | rfl | rfl
          · exact N6 _ (.head _)
          · exact ⟨kk6 _ _ nDl hD4, (gn3 DD (.tail _ (.head _))).1, (gn3 DD (.tail _ (.head _))).2⟩
          · exact N6 _ (.tail _ (.tail _ (.tail _ (.head _))))
          · exact N6 _ (.tail _ (.tail _ (.tail _ (.tail _ (.head _)))))
          · exact N6 _ (.tail _ (.tail _ (.tail _ (.tail _ (.tail _ (.head _))))))
          · exact N6 _ (.tail _ (.tail _ (.tail _ (.tail _ (.tail _ (.tail _ (.tail _ (.tail _ (.head _)))))))))
    · rintro s' jj17
      refine letter fun Qg hg => ?_
      obtain ⟨h, tk, P, fvs, n, lvs, ln, fs, rfl, hPn, J, ok, hl3⟩ := jj17
      refine hg ?_
      clear hg
      clear N hoff hown F₀ F N1
      refine ledP_with hPn ?_
      intro _ _ _ _ _
      refine join_cut (Jm := JL (Str.ofString "law.<locals>.<lambda>") w s₁ g L lF oF) ?_ ?_
      · refine letter fun Qg hg => ?_
        obtain ⟨m, o3, o5, x3, x5, ps, F, mP, N1, e3, e5, A, V, TB⟩ := id J
        refine hg ?_
        clear hg
        have N := N1
        dsimp only [led6] at N
        have hVl := V.length
        rw [List.length_map] at hVl
        have hAl := A.length
        with_unfolding_all refine For_H ?_ (by intro _; rfl) hPo
        w_strict k_steps
        unfold Held
        (with_reducible rename Fr _ _ _ _ => kF)
        (with_reducible rename News _ _ _ _ => kN)
        refine zip_H (xs := fvs) (ys := lvs) rfl ⟨_, (N1 _ (.head _)).1, rfl, n, rfl⟩ ⟨_, (N1 _ (.tail _ (.head _))).1, rfl, ln, rfl⟩ (TurnsK.turns ?_)
        rintro fp wr h₁ jj18
        refine letter fun Qg hg => ?_
        obtain ⟨isrc, iwr, iup, ithere, ind⟩ := jj18
        refine hg ?_
        clear hg
        dsimp only at iwr iup
        have gwr : ∀ b ∈ wr, b ≠ L ∧ g.get? b = none := fun b hb => ⟨(fun e => by obtain ⟨oL, hL⟩ := fr_there kF; rw [← e, (iwr b hb).2] at hL; cases hL), up_none kF.keep (iwr b hb).2⟩
        have hwY : ∀ a ∈ ledY L lF P, a ∉ wr := fun a ha q => by
          obtain ⟨o, ho⟩ := ledY_mem ha
          have := (N1 _ ho).1
          dsimp only at this
          rw [(iwr a q).2] at this; cases this
        have J1 := J.add iup (fun b hb => (iwr b hb).2)
        clear kF kN N1 J mP e3 e5 A V TB
        refine ⟨fun _ h => JS (Str.ofString "law.<locals>.<lambda>") w g L lF P oF fvs n lvs ln fs wr h, J1, fun i h h' j k ex => j.after k gwr hwY, ?_, ?_⟩
        · clear J1
          rintro i v h tk KK hi jj19 jj20 hex hK hKr
          refine letter fun Qg hg => ?_
          obtain ⟨T, x, y, rfl, hx, hy, hT⟩ := jj19
          obtain ⟨m, o3, o5, x3, x5, ps, F, mP, N1, e3, e5, A, V, TB⟩ := jj20
          refine hg ?_
          clear hg
          refine letter fun Qg hg => ?_
          obtain ⟨f, hfi, a, rfl, hfd⟩ := A.get hx
          refine hg ?_
          clear hg
          obtain ⟨lot, hli, hlv⟩ := V.get hy
          rw [List.getElem?_map, hfi] at hli
          cases hli
          have hT' : IsTup h T [Value.ref a, y].toArray := hT
          have eF := (N1 _ (.head _)).1
          have eP := (N1 _ (.tail _ (.head _))).1
          dsimp only at eF eP
          obtain ⟨own, hown⟩ : ∃ own, restOf g h L (ledY L lF P) = own := ⟨_, rfl⟩
          have hoff : OwnOff own (ledY L lF P) := hown ▸ rest_off
          have N : News g L h (led6 L lF P (listOf (List.toArray fvs) n) (listOf (List.toArray lvs) ln) o5 oF o3 (tabObj ps) ++ own) := hown ▸ rest_news N1
          dsimp only [led6, List.cons_append, List.nil_append] at N
          dsimp only [ledY] at hoff
          clear N1
          have F₀ := And.intro F trivial
          w_strict k_steps
          unfold Held
          (with_reducible rename Fr _ _ _ _ => kF)
          (with_reducible rename News _ _ _ _ => kN)
          have kA := rest_kept F₀.1 kF kN (fun p hp => by rw [hown] at hp; k_ownIn)
          have sYw : ∀ a ∈ L :: ledY L lF P, a ∈ L :: ledY L lF P ++ wr := fun a ha => List.mem_append_left _ ha
          have uA := hide_step (Z := L :: ledY L lF P ++ wr) (Z' := L :: ledY L lF P ++ wr) kA sYw (fun a ha => .inl ha)
          have hwL : ∀ b ∈ wr, b ∉ L :: ledY L lF P := fun b hb q => by
            rcases List.mem_cons.mp q with q | q
            · exact (gwr b hb).1 q
            · exact hwY b q hb
          k_dflt (refine kla_eval rfl ?_)
          refine' lam_T kF kN T' codeHd ?lc ?lU (TB.up uA) ?lz ?lp ?lq ?ll ?_
          case lc => exact rfl
          case lU => k_updF
          case lp => exact List.mem_append_left _ (.tail _ (.tail _ (.tail _ (.tail _ (.tail _ (.tail _ (.head _)))))))
          case lq => exact rfl
          case ll => exact rfl
          case lz =>
            intro a ha
            rcases List.mem_append.mp ha with ha | ha
            · rcases List.mem_cons.mp ha with ha | ha
              · rw [ha]; exact fr_there kF
              · obtain ⟨o, ho⟩ := ledY_mem ha
                exact ⟨o, (kN _ (List.mem_append_left own ho)).1⟩
            · obtain ⟨o, e⟩ := hex a (iwr a ha).1
              exact ⟨o, kA _ _ (hwL a ha) e⟩
          intro f9 c9 ctv9 h4 tk4 ps4 F4 N4 k4 nf4 ef4 cr4 TB4
          clear kF kN F₀ hoff
          w_strict k_steps
          unfold Held
          (with_reducible rename Fr _ _ _ _ => kF)
          (with_reducible rename News _ _ _ _ => kN)
          (rename _ = Data.cell (some (Value.ref a)) => dC)
          have eC := (kN _ (.tail _ (.tail _ (.tail _ (.tail _ (.head _)))))).1
          dsimp only at eC
          have k04 : Kept (L :: ledY L lF P) h h4 := kA.trans (k4.mono fun a ha => by rw [List.mem_singleton.mp ha]; exact .tail _ (.tail _ (.tail _ (.tail _ (.tail _ (.tail _ (.head _)))))))
          have u04 := hide_step (Z := L :: ledY L lF P ++ wr) (Z' := L :: ledY L lF P ++ wr) k04 sYw (fun a ha => .inl ha)
          have hfd4 : FdeIn h4 a f := (hfd.up u04).up hide_out
          have hok := ok f (List.mem_of_getElem? hfi)
          have fin : ∀ h6 tk6, Kept [L] h4 h6 → Fr g L h6 (fun z => if z = Str.ofString "rows" then some y else m z) → KK .next { s₁ with heap := h6, toks := tk6 } := fun h6 tk6 k6 F6 => by
            have k06 : Kept (L :: ledY L lF P) h h6 := k04.trans (k6.mono fun a ha => by rw [List.mem_singleton.mp ha]; exact .head _)
            have s6 : ∀ a ∈ [L], a ∈ L :: ledY L lF P ++ wr := fun a ha => by rw [List.mem_singleton.mp ha]; exact .head _
            have u06 := hide_step (Z := L :: ledY L lF P ++ wr) (Z' := L :: ledY L lF P ++ wr) k06 sYw (fun a ha => .inl ha)
            have u46 := hide_step (Z := L :: ledY L lF P ++ wr) (Z' := L :: ledY L lF P ++ wr) k6 s6 (fun a ha => .inl ha)
            have N6 : News g L h6 (led6 L lF P (listOf (List.toArray fvs) n) (listOf (List.toArray lvs) ln) o5 oF _ (tabObj ps4)) := fun p hp => News.afterK kN k6 (fun p hp q => (kN p hp).2.1 (List.mem_singleton.mp q)) p (List.mem_append_left own hp)
            refine (hK h6 tk6 ⟨_, _, o5, _, x5, ps4, F6, (if_neg (by decide)).trans mP, N6, dC, e5, fdes_up u06 A, lotvals_up u06 V, TB4.up u46⟩ fun b hb o e => ?_).1
            rcases isrc b hb with q | q
            · rcases List.mem_cons.mp q with q | q
              · rw [q, eF] at e; cases e; rw [q]; exact (N6 _ (.head _)).1
              · rw [List.mem_singleton.mp q, eP] at e; cases e; rw [List.mem_singleton.mp q]; exact (N6 _ (.tail _ (.head _))).1
            · exact k06 b o (hwL b q) e
          have hag : f.rows = lawRows f := rows_agree f hok.heads hok.ops
          refine heard_h (of := oF) (R := fun h9 v => ∃ l, f.rows = some l ∧ LotVal w h9 v (some l)) (P := f.rows = none) B' kF X' T' rfl rfl (by k_room) X' T' ⟨_, _, _, _, ef4⟩ ?_ ?_ ?_
          · intro g2 L2 h2 tk2 env2 m2 Q1 E1 up2 B2 F2 X2 T2 hfr2 hsc2 hQ1 hE1
            have up24 : Up h4 h2 := fun b o e => F2.keep _ _ (up2 _ _ e)
            refine enterLam (binds := []) B2 F2 X2 T2 rfl hfr2 hsc2 (up24 _ _ ef4) (cr4.keeps up24) (by k_room) rfl (locs rfl) ?_ rfl rfl rfl (by decide)
            intro g3 L3 h3 tk3 QQ3 EE3 up3 nL3 F3 B3 X3 T3 hq3 he3
            have up34 : Up h4 h3 := fun b o e => F3.keep _ _ (up3 _ _ (up24 _ _ e))
            have eC3 := up34 _ _ eC
            have hfd3 := hfd4.up up34
            clear kF kN hK hKr B2 F2 X2 T2
            refine' comp_N ?pa1 ?pa2 ?pa3 ?pa4 ?_ (by intro _; rfl)
            case pa1 => exact rfl
            case pa2 => decide
            case pa3 => exact rfl
            case pa4 => decide
            w_strict k_steps
            unfold Held
            refine rows_of_h B3 F3 X3 T3 rfl rfl (by k_room) (by units_room) hfd3 (fun op hop => (List.mem_append.mp hop).elim (fun q => (hok.heads op q).2) (hok.ops op)) ⟨Nat.le_trans hok.nh (by decide), Nat.le_trans hok.no (by decide)⟩ ?_ ?_
            · intro rows r vs n5 h5 tk5 hrows up5 nr er AR
              have F5 := F3.keeps up5
              have hrl := rows_few hrows hok.nh hok.no
              refine list_NF (vs := vs) rfl ⟨_, er, rfl, n5, rfl⟩ (by rw [sizeLine_eq, AR.length]; omega) ?_
              rintro fp2 wr2 h6 jj21 C DD h7 nC nDD neCD up7 exC eD7
              refine letter fun Qg hg => ?_
              obtain ⟨isrc2, iwr2, iup2, ithere2, ind2⟩ := jj21
              refine hg ?_
              clear hg
              dsimp only at iwr2 iup2
              have up57 : Up h5 h7 := fun b o e => up7 _ _ (iup2 b o e)
              have oldN : ∀ b, (∃ o, Heap.get? h5 b = some o) → b ∉ C :: DD :: wr2 := fun b hb q => by
                obtain ⟨o, e⟩ := hb
                rcases List.mem_cons.mp q with q | q
                · rw [← q, iup2 _ _ e] at nC; cases nC
                · rcases List.mem_cons.mp q with q | q
                  · rw [← q, iup2 _ _ e] at nDD; cases nDD
                  · rw [(iwr2 b q).2] at e; cases e
              have gn3 : ∀ b ∈ C :: DD :: wr2, b ≠ L3 ∧ g3.get? b = none := fun b hb => by
                refine ⟨fun q => oldN b (q ▸ fr_there F5) hb, ?_⟩
                cases q : g3.get? b with
                | none => rfl
                | some o => exact absurd hb (oldN b ⟨o, F5.keep _ _ q⟩)
              refine ⟨fun i2 ys2 h8 => (∃ m, Fr g3 L3 h8 m) ∧ All2 (RowIn w (hideAll h8 (C :: DD :: wr2))) vs rows ∧ All2 (LotRow w (hideAll h8 (C :: DD :: wr2))) ys2 (rows.take i2), ⟨⟨_, F5.keeps up57⟩, AR.imp fun v r x => x.keeps (hide_in up57 fun a ha => ?_), .nil⟩, ?_, ?_, ?_⟩
              · cases q : h5.get? a with
                | none => rfl
                | some o => exact absurd ha (oldN a ⟨o, q⟩)
              · rintro i2 ys2 h8 h9 jj22 k ex
                refine letter fun Qg hg => ?_
                obtain ⟨⟨m8, F8⟩, A8, V8⟩ := jj22
                refine hg ?_
                clear hg
                have u := hide_step (Z := C :: DD :: wr2) (Z' := C :: DD :: wr2) k (fun a ha => ha) (fun a ha => .inl ha)
                exact ⟨⟨m8, Fr.after F8 k gn3⟩, A8.imp fun v r x => x.keeps u, V8.imp fun v r x => x.up u⟩
              · rintro i2 ys2 v h8 tk8 m8 E8 hi2 hv jj23 hns hD8 hex8 hfl8
                refine letter fun Qg hg => ?_
                obtain ⟨⟨m8', F8⟩, A8, V8⟩ := jj23
                refine hg ?_
                clear hg
                obtain ⟨r0, hr0, hrow⟩ := A8.get hv
                refine single_C hns fun h9 tk9 oC m9 eC9 hC9 m9r k9 => ?_
                have F9 := Fr.after F8 k9 (fun a ha => gn3 a (by rw [List.mem_singleton.mp ha]; exact .head _))
                have sC : ∀ a ∈ [C], a ∈ C :: DD :: wr2 := fun a ha => by rw [List.mem_singleton.mp ha]; exact .head _
                have hrow9 : RowIn w h9 v r0 := (hrow.keeps (hide_step (Z := C :: DD :: wr2) (Z' := C :: DD :: wr2) k9 sC (fun a ha => .inl ha))).keeps hide_out
                have hD9 := k9 _ _ (fun z => neCD (List.mem_singleton.mp z).symm) hD8
                clear F3 F5
                w_strict k_steps
                unfold Held
                refine facts_some B3 F9 X3 T3 rfl rfl (by k_room) hrow9 ?_
                intro T0 h10 tk10 up10 nT lot10
                have k80 : Kept [C] h8 h10 := k9.up up10
                have u := hide_step (Z := C :: DD :: wr2) (Z' := C :: DD :: wr2) k80 sC (fun a ha => .inl ha)
                have nCf : ∀ b, (∃ o, h6.get? b = some o) → b ∉ [C] := fun b hb z => by
                  obtain ⟨o2, e2⟩ := hb
                  rw [List.mem_singleton.mp z, nC] at e2; cases e2
                refine ⟨h10, _, rfl, ⟨⟨_, F9.keeps up10⟩, A8.imp fun v r x => x.keeps u, ?_⟩, up10 _ _ hD9, ⟨_, hC9.ns (up10 _ _ eC9)⟩, fun b hb o e => up10 _ _ (k9 _ _ (nCf b (ithere2 b hb)) e)⟩
                rw [take_snoc hr0]
                refine All2.append (V8.imp fun v r x => x.up u) (.cons (lot10.hide fun a ha => ?_) .nil)
                rcases List.mem_cons.mp ha with ha | ha
                · rw [ha]; exact noLot_ns (hC9.ns (up10 _ _ eC9)) m9r
                · rcases List.mem_cons.mp ha with ha | ha
                  · rw [ha]; exact noLot_list (up10 _ _ hD9)
                  · obtain ⟨o, e⟩ := hex8 a (.tail _ (.tail _ (iwr2 a ha).1))
                    obtain ⟨vs9, hd⟩ := hfl8 a ha o e
                    exact noLot_fields (up10 _ _ (k9 _ _ (nCf a (ithere2 a (iwr2 a ha).1)) e)) hd
              · rintro ys2 h8 h9 tk9 jj24 hD8 k9 hyl
                refine letter fun Qg hg => ?_
                obtain ⟨⟨m8', F8⟩, A8, V8⟩ := jj24
                refine hg ?_
                clear hg
                have sub9 : ∀ a ∈ C :: wr2, a ∈ C :: DD :: wr2 := fun a ha => by
                  rcases List.mem_cons.mp ha with ha | ha
                  · rw [ha]; exact .head _
                  · exact .tail _ (.tail _ ha)
                have F9 := Fr.after F8 k9 (fun a ha => gn3 a (sub9 a ha))
                have nD9 : DD ∉ C :: wr2 := fun z => by
                  rcases List.mem_cons.mp z with z | z
                  · exact neCD z.symm
                  · obtain ⟨o, e⟩ := ithere2 DD (iwr2 DD z).1
                    rw [nDD] at e; cases e
                have u := hide_step (Z := C :: DD :: wr2) (Z' := C :: DD :: wr2) k9 sub9 (fun a ha => .inl ha)
                rw [AR.length, List.take_length] at V8
                refine hq3 _ _ (hQ1 _ _ _ (fun b o e => F9.keep _ _ (up3 _ _ e)) ⟨rows, hrows, DD, ys2, ys2.length, rfl, k9 _ _ nD9 hD8, V8.imp fun v r x => (x.up u).up hide_out⟩)
            · intro h5 tk5 e hrows hF
              refine he3 _ _ ?_
              refine leave_faultX B3 (fr_off F3) (fault_base F3 (fun b hb => by cases hb) hF) fun h9 R9 => ?_
              exact hE1 _ _ _ hrows (R9.mono fun b o e _ => ⟨up3 _ _ e, List.not_mem_nil⟩)
          · rintro v6 h6 tk6 up6 jj25
            refine letter fun Qg hg => ?_
            obtain ⟨rows, hrows, R6, vs6, n6, rfl, eR6, A6⟩ := jj25
            refine hg ?_
            clear hg
            rw [← hag, hrows] at hlv
            refine letter fun Qg hg => ?_
            obtain ⟨R7, vs7, n7, rfl, eR7, A7⟩ := hlv
            refine hg ?_
            clear hg
            have F6 := kF.keeps up6
            have N6 := News.keepsUp kN up6
            have uu : Up (hideAll h (L :: ledY L lF P ++ wr)) h6 := (u04.trans hide_out).trans up6
            clear kN
            dsimp only
            w_strict k_steps
            unfold Held
            refine ne_lots (vs := vs6) (ys := vs7) (rows := rows) ⟨_, eR6, rfl, n6, rfl⟩ ⟨_, uu _ _ eR7, rfl, n7, rfl⟩ A6 (lots_up uu A7) (by units_room) ?_
            w_strict k_steps
            exact fin _ _ (fun b o _ e => up6 _ _ e) F6
          · intro t6 h6 tk6 hp K6 S6
            rw [← hag, hp] at hlv
            obtain rfl : y = .none := hlv
            have K7 : Kept [L] h4 h6 := K6
            have F6 := fr_slots kF K7 (fun o e hd => S6 L o e hd)
            have N6 := News.afterK kN K7 (fun p hp q => (kN p hp).2.1 (List.mem_singleton.mp q))
            have kF' := kF
            clear kF kN
            dsimp only
            w_strict k_steps
            exact fin _ _ K7 F6
        · rintro h h' tk J k
          have J2 := (J.after k gwr hwY).done
          exact ⟨h', tk, P, fvs, n, lvs, ln, fs, rfl, hPn, J2, ok, hl3⟩
      · clear hPn J ok hl3
        rintro s' jj26
        refine letter fun Qg hg => ?_
        obtain ⟨h, tk, P, fvs, n, lvs, ln, fs, rfl, hPn, J, ok, hl3⟩ := jj26
        refine hg ?_
        clear hg
        refine ledP_with hPn ?_
        intro _ _ _ _ _
        refine join_cut (Jm := JL (Str.ofString "law.<locals>.<lambda>") w s₁ g L lF oF) ?_ ?_
        · refine letter fun Qg hg => ?_
          obtain ⟨m, o3, o5, x3, x5, ps, F, mP, N1, e3, e5, A, V, TB⟩ := id J
          refine hg ?_
          clear hg
          obtain ⟨own, hown⟩ : ∃ own, restOf g h L (ledY L lF P) = own := ⟨_, rfl⟩
          have hoff : OwnOff own (ledY L lF P) := hown ▸ rest_off
          have N : News g L h (led6 L lF P (listOf (List.toArray fvs) n) (listOf (List.toArray lvs) ln) o5 oF o3 (tabObj ps) ++ own) := hown ▸ rest_news N1
          dsimp only [led6, List.cons_append, List.nil_append] at N
          dsimp only [ledY] at hoff
          have F₀ := And.intro F trivial
          have hVl := V.length
          rw [List.length_map] at hVl
          have hAl := A.length
          with_unfolding_all refine For_H ?_ (by intro _; rfl) hPo
          w_strict k_steps
          rename_i hRg kF kN upR
          dsimp only at upR
          have JR := J.add (wr := []) upR (fun b hb => by cases hb)
          refine range_R (n := 23) rfl hRg (by decide) (by decide) (fun I i v s Q E st q => by show wpAny _ _ (pure ()) _ _ _; exact wpAny_pure q) ?_
          intro I h₁ nI up1 eI
          dsimp only at nI up1
          have gI : ∀ b ∈ [I], b ≠ L ∧ g.get? b = none := fun b hb => by
            rw [List.mem_singleton.mp hb]
            exact ⟨(fun e => by obtain ⟨oL, hL⟩ := fr_there kF; rw [← e, nI] at hL; cases hL), up_none kF.keep nI⟩
          have hIY : ∀ a ∈ ledY L lF P, a ∉ [I] := fun a ha q => by
            obtain ⟨o, ho⟩ := ledY_mem ha
            have := (kN _ (List.mem_append_left own ho)).1
            dsimp only at this
            rw [List.mem_singleton.mp q, nI] at this; cases this
          have J1 := JR.add up1 (wr := [I]) (fun b hb => by rw [List.mem_singleton.mp hb]; exact nI)
          clear hoff hown kF kN N1 J JR mP e3 e5 A V TB upR hRg F₀
          refine ⟨fun _ h => JS (Str.ofString "law.<locals>.<lambda>") w g L lF P oF fvs n lvs ln fs [I] h, J1, fun i h h' j k => j.after k gI hIY, ?_, ?_⟩
          · clear J1
            rintro i t h tk KK hi jj27 eI' hK hKr
            refine letter fun Qg hg => ?_
            obtain ⟨m, o3, o5, x3, x5, ps, F, mP, N1, e3, e5, A, V, TB⟩ := jj27
            refine hg ?_
            clear hg
            obtain ⟨own, hown⟩ : ∃ own, restOf g h L (ledY L lF P) = own := ⟨_, rfl⟩
            have hoff : OwnOff own (ledY L lF P) := hown ▸ rest_off
            have N : News g L h (led6 L lF P (listOf (List.toArray fvs) n) (listOf (List.toArray lvs) ln) o5 oF o3 (tabObj ps) ++ own) := hown ▸ rest_news N1
            dsimp only [led6, List.cons_append, List.nil_append] at N
            dsimp only [ledY] at hoff
            clear N1
            have F₀ := And.intro F trivial
            w_strict k_steps
            unfold Held
            (with_reducible rename Fr _ _ _ _ => kF)
            (with_reducible rename News _ _ _ _ => kN)
            have kA := rest_kept F₀.1 kF kN (fun p hp => by rw [hown] at hp; k_ownIn)
            have sYw : ∀ a ∈ L :: ledY L lF P, a ∈ L :: ledY L lF P ++ [I] := fun a ha => List.mem_append_left _ ha
            have uA := hide_step (Z := L :: ledY L lF P ++ [I]) (Z' := L :: ledY L lF P ++ [I]) kA sYw (fun a ha => .inl ha)
            have hwL : I ∉ L :: ledY L lF P := fun q => by
              rcases List.mem_cons.mp q with q | q
              · exact (gI I (.head _)).1 q
              · exact hIY I q (.head _)
            k_dflt (refine kla_eval rfl ?_)
            refine' lam_T kF kN T' codeHd ?mc ?mU (TB.up uA) ?mz ?mp ?mq ?ml ?_
            case mc => exact rfl
            case mU => k_updF
            case mp => exact List.mem_append_left _ (.tail _ (.tail _ (.tail _ (.tail _ (.tail _ (.tail _ (.head _)))))))
            case mq => exact rfl
            case ml => exact rfl
            case mz =>
              intro a ha
              rcases List.mem_append.mp ha with ha | ha
              · rcases List.mem_cons.mp ha with ha | ha
                · rw [ha]; exact fr_there kF
                · obtain ⟨o, ho⟩ := ledY_mem ha
                  exact ⟨o, (kN _ (List.mem_append_left own ho)).1⟩
              · obtain ⟨o, e⟩ := eI'
                rw [List.mem_singleton.mp ha]
                exact ⟨o, kA _ _ hwL e⟩
            intro f9 c9 ctv9 h4 tk4 ps4 F4 N4 k4 nf4 ef4 cr4 TB4
            clear kF kN F₀ hoff
            w_strict k_steps
            unfold Held
            (with_reducible rename Fr _ _ _ _ => kF)
            (with_reducible rename News _ _ _ _ => kN)
            (rename _ = Data.cell (some (Value.int _ t)) => dC)
            generalize 19 + (i : Int) = pc at dC
            have eC := (kN _ (.tail _ (.tail _ (.head _)))).1
            have eD := (kN _ (.tail _ (.tail _ (.tail _ (.head _))))).1
            have eF := (kN _ (.head _)).1
            have eP := (kN _ (.tail _ (.head _))).1
            dsimp only at eC eD eF eP
            have k04 : Kept (L :: ledY L lF P) h h4 := kA.trans (k4.mono fun a ha => by rw [List.mem_singleton.mp ha]; exact .tail _ (.tail _ (.tail _ (.tail _ (.tail _ (.tail _ (.head _)))))))
            have u04 := hide_step (Z := L :: ledY L lF P ++ [I]) (Z' := L :: ledY L lF P ++ [I]) k04 sYw (fun a ha => .inl ha)
            have A4 := fdes_up (u04.trans hide_out) A
            have V4 := lotvals_up (u04.trans hide_out) V
            have hag : ∀ f ∈ fs, f.rows = lawRows f := fun f hf => rows_agree f (ok f hf).heads (ok f hf).ops
            refine wpAny_mono (?hcall : wpAny _ _ _ (fun v s' => ∃ h6 tk6, s' = { s₁ with heap := h6, toks := tk6 } ∧ Kept [L] h4 h6 ∧ Fr g L h6 m ∧ ((fs.find? (fun f => inRange f pc) = none ∧ v = .none) ∨ (∃ f r, fs.find? (fun f => inRange f pc) = some f ∧ (∃ rows, f.rows = some rows ∧ foundOf pc rows = some r) ∧ LotRow w h6 v r) ∨ (∃ f rows, fs.find? (fun f => inRange f pc) = some f ∧ f.rows = some rows ∧ foundOf pc rows = none) ∨ (∃ f u, fs.find? (fun f => inRange f pc) = some f ∧ f.rows = none ∧ v = .str (Str.ofString "fault") u))) EE _) ?hcont (fun _ _ e => e)
            case hcall =>
              refine heard_h (of := oF) (R := fun h6 v => (fs.find? (fun f => inRange f pc) = none ∧ v = .none) ∨ (∃ f r, fs.find? (fun f => inRange f pc) = some f ∧ (∃ rows, f.rows = some rows ∧ foundOf pc rows = some r) ∧ LotRow w h6 v r) ∨ (∃ f rows, fs.find? (fun f => inRange f pc) = some f ∧ f.rows = some rows ∧ foundOf pc rows = none)) (P := ∃ f, fs.find? (fun f => inRange f pc) = some f ∧ f.rows = none) B' kF X' T' rfl rfl (by k_room) X' T' ⟨_, _, _, _, ef4⟩ ?_ ?_ ?_
              · intro g2 L2 h2 tk2 env2 m2 Q1 E1 up2 B2 F2 X2 T2 hfr2 hsc2 hQ1 hE1
                have up24 : Up h4 h2 := fun b o e => F2.keep _ _ (up2 _ _ e)
                refine enterLam (binds := []) B2 F2 X2 T2 rfl hfr2 hsc2 (up24 _ _ ef4) (cr4.keeps up24) (by k_room) rfl (locs rfl) ?_ rfl rfl rfl (by decide)
                intro g3 L3 h3 tk3 QQ3 EE3 up3 nL3 F3 B3 X3 T3 hq3 he3
                have up34 : Up h4 h3 := fun b o e => F3.keep _ _ (up3 _ _ (up24 _ _ e))
                have eC3 := up34 _ _ eC
                have eD3 := up34 _ _ eD
                clear kF kN hK hKr B2 F2 X2 T2
                w_strict k_steps
                unfold Held
                refine row_h B3 F3 X3 T3 rfl rfl (by k_room) (by units_room) ⟨_, up34 _ _ eF, rfl, n, rfl⟩ (fdes_up up34 A4) (fun f hf => ⟨fun op hop => (List.mem_append.mp hop).elim (fun q => ((ok f hf).heads op q).2) ((ok f hf).ops op), Nat.le_trans (ok f hf).nh (by decide), Nat.le_trans (ok f hf).no (by decide)⟩) ?_ ?_
                · intro v9 h9 tk9 o9 hm up9 rr
                  have F9 := F3.keeps up9
                  have uf : Up h2 h9 := fun b o e => F9.keep _ _ (up3 _ _ e)
                  clear F3
                  w_strict k_steps
                  unfold Held
                  cases o9 with
                  | none =>
                    obtain rfl : v9 = .none := rr
                    refine facts_none B3 F9 X3 T3 rfl rfl (by k_room) fun hA tkA upA => ?_
                    refine hq3 _ _ (hQ1 _ _ _ (uf.trans upA) ?_)
                    rcases hfd : fs.find? (fun f => inRange f pc) with _ | f
                    · exact .inl ⟨rfl, rfl⟩
                    · rw [hfd] at hm
                      obtain ⟨rows, h1, h2⟩ := hm
                      exact .inr (.inr ⟨f, rows, rfl, h1, h2.symm⟩)
                  | some r =>
                    refine facts_some B3 F9 X3 T3 rfl rfl (by k_room) rr fun T0 hA tkA upA nT lotA => ?_
                    refine hq3 _ _ (hQ1 _ _ _ (uf.trans upA) ?_)
                    rcases hfd : fs.find? (fun f => inRange f pc) with _ | f
                    · rw [hfd] at hm; cases hm
                    · rw [hfd] at hm
                      obtain ⟨rows, h1, h2⟩ := hm
                      exact .inr (.inl ⟨f, r, rfl, ⟨rows, h1, h2.symm⟩, lotA⟩)
                · intro h5 tk5 e f hfd hrows hF
                  refine he3 _ _ ?_
                  refine leave_faultX B3 (fr_off F3) (fault_base F3 (fun b hb => by cases hb) hF) fun h9 R9 => ?_
                  exact hE1 _ _ _ ⟨f, hfd, hrows⟩ (R9.mono fun b o e _ => ⟨up3 _ _ e, List.not_mem_nil⟩)
              · intro v6 h6 tk6 up6 hR
                refine ⟨h6, tk6, rfl, fun b o _ e => up6 _ _ e, kF.keeps up6, ?_⟩
                rcases hR with q | q | q
                · exact .inl q
                · exact .inr (.inl q)
                · exact .inr (.inr (.inl q))
              · rintro t6 h6 tk6 ⟨f, h1, h2⟩ K6 S6
                have K7 : Kept [L] h4 h6 := K6
                exact ⟨h6, tk6, rfl, K7, fr_slots kF K7 (fun o e hd => S6 L o e hd), .inr (.inr (.inr ⟨f, _, h1, h2, rfl⟩))⟩
            rintro v6 s' jj28
            refine letter fun Qg hg => ?_
            obtain ⟨h6, tk6, rfl, K6, F6, rel⟩ := jj28
            refine hg ?_
            clear hg
            have N6 := News.afterK kN K6 (fun p hp q => (kN p hp).2.1 (List.mem_singleton.mp q))
            have K6t : Kept [L] h4 h6 := K6
            have s6 : ∀ a ∈ [L], a ∈ L :: ledY L lF P ++ [I] := fun a ha => by rw [List.mem_singleton.mp ha]; exact .head _
            have k06 : Kept (L :: ledY L lF P) h h6 := k04.trans (K6.mono fun a ha => by rw [List.mem_singleton.mp ha]; exact .head _)
            have u06 := hide_step (Z := L :: ledY L lF P ++ [I]) (Z' := L :: ledY L lF P ++ [I]) k06 sYw (fun a ha => .inl ha)
            have u46 := hide_step (Z := L :: ledY L lF P ++ [I]) (Z' := L :: ledY L lF P ++ [I]) K6 s6 (fun a ha => .inl ha)
            clear kF kN
            w_strict k_steps
            unfold Held
            refine due_h B' F6 X' T' rfl rfl (by k_room) (by units_room) ⟨_, (N6 _ (.head _)).1, rfl, n, rfl⟩ (fdes_up (u06.trans hide_out) A) ⟨_, (N6 _ (.tail _ (.head _))).1, rfl, ln, rfl⟩ (lotvals_up (u06.trans hide_out) V) (fun f hf rows hr => by
              rw [← hag f hf] at hr
              exact ⟨Nat.le_trans (rows_few hr (ok f hf).nh (ok f hf).no) (by decide), rows_head hr⟩) ?_
            intro v7 h7 tk7 up7 rd
            have F7 := F6.keeps up7
            have fin : ∀ tk', KK .next { s₁ with heap := h7, toks := tk' } := fun tk' => by
              have u67 := hide_step (h := h6) (h' := h7) (as := []) (Z := L :: ledY L lF P ++ [I]) (Z' := L :: ledY L lF P ++ [I]) (fun b o _ e => up7 b o e) (fun a ha => by cases ha) (fun a ha => .inl ha)
              have N7 : News g L h7 (led6 L lF P (listOf (List.toArray fvs) n) (listOf (List.toArray lvs) ln) _ oF o3 (tabObj ps4)) := fun p hp => News.keepsUp N6 up7 p (List.mem_append_left own hp)
              exact (hK h7 tk' ⟨m, o3, _, x3, _, ps4, F7, mP, N7, e3, dC, fdes_up (u06.trans u67) A, lotvals_up (u06.trans u67) V, (TB4.up u46).up u67⟩ fun o e => up7 _ _ (k06 I o hwL e)).1
            clear F6 N6
            dsimp only
            rcases rel with ⟨h1, rfl⟩ | ⟨f, r, h1, ⟨rows, h2, h3⟩, lot⟩ | ⟨f, rows, h1, h2, h3⟩ | ⟨f, u, h1, h2, rfl⟩
            · rw [h1] at rd
              obtain rfl : v7 = .none := rd
              w_strict k_steps
              exact fin _
            · rw [h1] at rd
              unfold DueRes at rd
              dsimp only at rd
              rw [← hag f (List.mem_of_find?_eq_some h1), h2] at rd
              obtain ⟨r2, h4, lot2⟩ := rd
              have e := found_last pc rows none
              rw [h4] at e
              replace e : foundOf pc rows = some r2 := e
              rw [h3] at e
              cases e
              refine ne_lot (lot.up up7) lot2 (by units_room) ?_
              w_strict k_steps
              exact fin _
            · rw [h1] at rd
              unfold DueRes at rd
              dsimp only at rd
              rw [← hag f (List.mem_of_find?_eq_some h1), h2] at rd
              obtain ⟨r2, h4, lot2⟩ := rd
              have e := found_last pc rows none
              rw [h4] at e
              replace e : foundOf pc rows = some r2 := e
              rw [h3] at e
              cases e
            · rw [h1] at rd
              unfold DueRes at rd
              dsimp only at rd
              rw [← hag f (List.mem_of_find?_eq_some h1), h2] at rd
              obtain ⟨t7, rfl⟩ := rd
              w_strict k_steps
              exact fin _
          · rintro h h' tk J k
            have J2 := (J.after k gI hIY).done
            exact ⟨h', tk, P, fvs, n, lvs, ln, fs, rfl, hPn, J2, ok, hl3⟩
        · clear hPn J ok hl3
          rintro s' jj29
          refine letter fun Qg hg => ?_
          obtain ⟨h, tk, P, fvs, n, lvs, ln, fs, rfl, hPn, ⟨m, o3, o5, x3, x5, ps, F, mP, N1, e3, e5, A, V, TB⟩, ok, hl3⟩ := jj29
          refine hg ?_
          clear hg
          have N : News g L h [(248, tabObj ps)] := fun p hp => N1 p (by
            rw [List.mem_singleton.mp hp]
            exact .tail _ (.tail _ (.tail _ (.tail _ (.tail _ (.head _))))))
          clear N1
          w_strict k_steps
          unfold Held
          (with_reducible rename Fr _ _ _ _ => kF)
          (with_reducible rename News _ _ _ _ => kN)
          refine row_h (fvs := []) (fs := []) B' kF X' T' rfl rfl (by k_room) (by units_room) ⟨_, (kN _ (.head _)).1, rfl, 0, rfl⟩ .nil (fun f hf => by cases hf) ?_ ?_
          · intro v h9 tk9 o9 hm up9 rr
            have hm' : o9 = none := hm
            subst hm'
            obtain rfl : v = .none := rr
            have F9 := kF.keeps up9
            have N9 : News g L h9 [(248, tabObj ps)] := fun p hp => News.keepsUp kN up9 p (.tail _ hp)
            w_strict k_steps
            exact hEnd _ _ _ _ F9 N9
          · intro h9 tk9 e f hfd
            cases hfd
end Mine
theorem PySem.Challenge.cw_on0310_01_holds : PySem.Challenge.rw_on0310_01.Holds :=
  Mine.test
