import PyProof.Rows.All
import Wide.All
import OpenK.AllK
import Wide.FinOn
import PySem.Challenge.RW_nt0016_01
open PySem PySem.W PyProof.Rows PySem.Calls PySem.Spec
set_option maxRecDepth 100000
set_option maxHeartbeats 8000000
set_option Elab.async false
set_option linter.unusedVariables false
set_option rowWalk.seconds 0
namespace Mine
/-- topRun on trees -/
noncomputable def runT (tb : String → Option Builtin) (p : Program) (w : World) (n₀ : Nat) (ann : Option Value) : Nat → SharedT → Thread → Option SharedT
  | 0, _, _ => none
  | n + 1, s, t => match through t with
    | true => some s
    | false => match stepOk n₀ ann t with
      | false => none
      | true => match stepT (denote tb) p w s t with
        | some (s', t') => runT tb p w n₀ ann n s' t'
        | none => none
theorem runT_of {tb : String → Option Builtin} {p : Program} {w : World} {n₀ : Nat} {ann : Option Value} : ∀ {n : Nat} {s r : SharedT} {t : Thread}, runT tb p w n₀ ann n s t = some r → topRun tb p w n₀ ann n s.abs t = some r.abs
  | 0, _, _, _, h => by cases h
  | n + 1, s, r, t, h => by
    unfold runT at h
    unfold topRun
    cases ht : through t with
    | true => rw [ht] at h; cases h; rfl
    | false =>
      rw [ht] at h
      cases hk : stepOk n₀ ann t with
      | false => rw [hk] at h; cases h
      | true =>
        rw [hk] at h
        cases hs : stepT (denote tb) p w s t with
        | none => rw [hs] at h; cases h
        | some q => obtain ⟨s₂, t₂⟩ := q; rw [hs] at h; rw [stepT_spec hs]; exact runT_of h
/-- runT by the library's quick twins -/
noncomputable def runF (p : Program) (w : World) (n₀ : Nat) (ann : Option Value) : Nat → SharedT → Thread → Option SharedT
  | 0, _, _ => none
  | n + 1, s, t => match through t with
    | true => some s
    | false => match Fast.tw6613529449190102663 n₀ ann t with
      | false => none
      | true => match Fast.tw10156331382660048174 (Fast.tw11892475500146522536 Fast.tw14364793385576792824) p w s t with
        | some (s', t') => runF p w n₀ ann n s' t'
        | none => none
theorem runF_eq {p : Program} {w : World} {n₀ : Nat} {ann : Option Value} : ∀ {n : Nat} {s : SharedT} {t : Thread}, runT treeTable p w n₀ ann n s t = runF p w n₀ ann n s t
  | 0, _, _ => rfl
  | n + 1, s, t => by
    unfold runT runF
    rw [← Fast.te6613529449190102663, ← Fast.te10156331382660048174, ← Fast.te11892475500146522536, ← Fast.te14364793385576792824]
    cases through t with
    | true => rfl
    | false =>
      cases stepOk n₀ ann t with
      | false => rfl
      | true =>
        cases stepT (denote treeTable) p w s t with
        | none => rfl
        | some q => exact runF_eq

noncomputable def bootT (P : Params) : BT := ((boot_heap P).objs.toList.foldl (fun (r : BT × Nat) o => (r.1.ins r.2 o, r.2 + 1)) (.nil, 0)).1
theorem bootT_ok (P : Params) : boot_heap P = absHeap (bootT P) 11 {} := by kernel_rfl

/-- what the head asks of the heap after the top -/
noncomputable def looksAt (p q : Program) (loose : List Str) (Xt : Shared → Bool) (h₀ : Heap) (s : Shared) :=
  ((staticsOk (importedModules p.main.body) h₀ s.heap && namesBound p s.heap && gensDone s && laidKept h₀ s.heap), Fast.tw4187177175401517315 q loose (importedModules p.main.body) Xt true s)

/-- the top's run where the world answers b to the row: it ends, and the heap behind it is as the head asks -/
abbrev RunOk (p q : Program) (loose : List Str) (Xt : Shared → Bool) (K : Params → Frag) (N m₀ : Nat) (ann : Option Value) (row : String) (b : Bool) : Prop :=
  ∀ (w : World) (os : OsState), (runF p (w.withFollow row b) m₀ ann N ⟨bootT (w.withFollow row b).params, 11, {}, #[], boot_drawn, boot_toks, os⟩ (topStub p)).map
      (fun s => (looksAt p q loose Xt (boot_heap (w.withFollow row b).params) s.abs, ((K (w.withFollow row b).params).map (·.1)).map s.abs.heap.get?)) =
    some ((true, openGood q loose), (K (w.withFollow row b).params).map fun x => some x.2)

theorem left_of {p q : Program} {loose : List Str} {Xt : Shared → Bool} {K : Params → Frag} {as : List Addr} {e : ∀ P, as = (K P).map (·.1)} {N m₀ : Nat} {ann : Option Value} {row : String}
    (open_ : ∀ w : World, (fencedOpening treeTable p w N).map (fun s => (s.heap, s.gens, s.drawn, s.toks)) = some (boot_heap w.params, Array.mk [], boot_drawn, boot_toks))
    (size : ∀ w : World, ((boot_heap w.params).isNs mainGlobals, (boot_heap w.params).objs.size, (boot_heap w.params).nsMap mainGlobals "__annotations__") = (true, m₀, ann))
    (run : ∀ b, RunOk p q loose Xt K N m₀ ann row b) : LeftO p q loose Xt (Hook.obs (kHook K as e)) (Hook.val (kHook K as e)) N := fun w => by
  obtain ⟨⟨h, gs, d, k, os⟩, e0, e'⟩ := Option.map_eq_some_iff.mp (open_ w)
  obtain ⟨rfl, rfl, rfl, rfl⟩ : h = boot_heap w.params ∧ gs = #[] ∧ d = boot_drawn ∧ k = boot_toks := by simpa using e'
  obtain ⟨z1, z2, z3⟩ : _ ∧ _ ∧ _ := by simpa only [Prod.mk.injEq] using size w
  have r := run (w.params.followText row) w os
  rw [World.withFollow_self] at r
  obtain ⟨s, e1, e2⟩ := Option.map_eq_some_iff.mp r
  obtain ⟨l, y⟩ := Prod.mk.inj e2
  obtain ⟨l1, l2⟩ := Prod.mk.inj l
  rw [← runF_eq] at e1
  have t1 := runT_of e1
  have t2 : (⟨bootT w.params, 11, {}, #[], boot_drawn, boot_toks, os⟩ : SharedT).abs = ⟨boot_heap w.params, #[], boot_drawn, boot_toks, os⟩ := by
    show Shared.mk _ _ _ _ _ = _
    rw [bootT_ok]
  rw [t2] at t1
  have t : topFrom treeTable p w N ⟨boot_heap w.params, #[], boot_drawn, boot_toks, os⟩ = some s.abs := by
    unfold topFrom
    dsimp only
    rw [z1, z2, z3, t1]
    show (match staticsOk (importedModules p.main.body) (boot_heap w.params) s.abs.heap && namesBound p s.abs.heap && gensDone s.abs && laidKept (boot_heap w.params) s.abs.heap with | true => _ | false => _) = _
    rw [l1]
  rw [← Fast.te4187177175401517315] at l2
  rw [← e w.params] at y
  unfold openEnds
  rw [e0]
  show (topFrom treeTable p w N _).map _ = _
  rw [t]
  exact congrArg some (Prod.ext l2 y)

theorem head_of {r : OpenRow} {q : Program} {loose : List Str} {Xt : Shared → Bool} {XP : (Str → Option Value) → Heap → Prop} {H : Hook} {K : Params → Frag} {as : List Addr} {e : ∀ P, as = (K P).map (·.1)} {d : DefRec} {kwd : List (Str × Expr)}
    (N m₀ : Nat) (ann : Option Value) (row : String) (_ : H = kHook K as e)
    (open_ : ∀ w : World, (fencedOpening treeTable r.prog w N).map (fun s => (s.heap, s.gens, s.drawn, s.toks)) = some (boot_heap w.params, Array.mk [], boot_drawn, boot_toks))
    (size : ∀ w : World, ((boot_heap w.params).isNs mainGlobals, (boot_heap w.params).objs.size, (boot_heap w.params).nsMap mainGlobals "__annotations__") = (true, m₀, ann))
    (hX : ∀ s, Xt s = true → XP (s.heap.nsMap mainGlobals) s.heap) (hXk : ∀ mg h h', XP mg h → (∀ b o, h.get? b = some o → h'.get? b = some o) → XP mg h')
    (hdef : defOf q r.name = some (d, kwd)) (hp : r.prog.theDef r.name = some (d.params, d.body, d.scope)) (hk : kwWritten? d.params.kwonlyargs d.params.kw_defaults = some kwd) (hRf : ∀ s, Xt s = true → RecFacts r.records s.heap) (hwr : (!r.writes || r.records.isEmpty) = true)
    (k1 : r.wellSaid = true) (ok : (chainsOk q && opensWell r.prog && (frees r.toRowW && r.within.isEmpty)) = true) (hb : r.prog.bare) (hw : r.toRowW.promised)
    (call : (∀ b, RunOk r.prog q loose Xt K N m₀ ann row b) ∧ WalkO q loose XP (kHook K as e).says r.toRowW d kwd fun f vs => PySem.call f vs) : r.Holds :=
  holds_open (left_of open_ size call.1) (Hook.of (kHook K as e)) (Hook.keeps (kHook K as e)) hX hXk hdef hp hk hRf hwr k1 ok hb hw call.2

/-- the statements that the head pins -/
noncomputable def hVw : Program := view PySem.Challenge.pw_nt0016_01 [0, 2, 3, 4, 5, 6, 7, 10, 12, 13, 15, 16, 18, 19, 21, 22, 23, 24, 25, 26, 27, 28, 29]
abbrev hLo : List PySem.Str := [Str.ofString "scripts_of_text", Str.ofString "_law_more", Str.ofString "_law_codes"]
noncomputable abbrev hXt : Shared → Bool := fun s => xlAt hVw [] s && recOk (RowW.records PySem.Challenge.rw_nt0016_01.row.toRowW) s
theorem hSaid : PySem.Challenge.rw_nt0016_01.wellSaid = true := by
  rw [Fast.te9446332074065402090]
  kernel_rfl
local macro_rules | `(tactic| o_law) => `(tactic| refine holds_law hSaid fun said => ?_)
local macro_rules | `(tactic| o_head $H) => do
  let hw := Lean.mkIdent `hw
  let hc := Lean.mkIdent `hc
  `(tactic| refine head_of (r := PySem.Challenge.rw_nt0016_01.row) (q := hVw) (loose := hLo) (Xt := hXt) (XP := XL hVw []) (H := $H) 2904 11 (some (Value.ref 6)) "special-get-raises" rfl (boot_open (by kernel_rfl) (by decide) (fun _ => by kernel_rfl)) (fun w => by kernel_rfl) (fun s e => xl_of s (Bool.and_eq_true_iff.mp e).1) XL.keeps (by rfl) (by rfl) (by rfl) (fun s e => recFacts_of (Bool.and_eq_true_iff.mp e).2) (by rfl) (by assumption) (by decide +kernel) ⟨rfl, rfl, rfl, rfl, rfl, by decide +kernel⟩ ?$hw ?$hc)
open_top hd for PySem.Challenge.rw_nt0016_01
theorem hRun0 : RunOk PySem.Challenge.rw_nt0016_01.row.toRowW.prog hVw hLo hXt hd.heap_1 2904 11 (some (Value.ref 6)) "special-get-raises" false := fun w os => by kernel_rfl
theorem hRun1 : RunOk PySem.Challenge.rw_nt0016_01.row.toRowW.prog hVw hLo hXt hd.heap_1 2904 11 (some (Value.ref 6)) "special-get-raises" true := fun w os => by kernel_rfl
theorem hRuns (b : Bool) : RunOk PySem.Challenge.rw_nt0016_01.row.toRowW.prog hVw hLo hXt hd.heap_1 2904 11 (some (Value.ref 6)) "special-get-raises" b := by
  cases b
  · exact hRun0
  · exact hRun1
end Mine


namespace Mine
example : True := by
  w_top off
  trivial

section


/-- the surroundings of a call: everything but its handled exception is free -/
abbrev AX (dp un : Nat) (fr : Option (List Env)) (gd : Option (List Code)) : Around := { handled := none, depth := dp, frames := fr, guards := gd, units := un }

/-- h' keeps all that h has, but at the addresses ds -/
def KeepBut (ds : List Addr) (h h' : Heap) : Prop := ∀ b o, h.get? b = some o → b ∉ ds → h'.get? b = some o

section
variable {prog : Program} {w : World} {A : Around} {s : Shared} {K : Frag} {h₀ : Heap} {mg mb : Str → Option Value} {news : List (Addr × Obj)} {p : Program} {loose : List Str} {mean : ExcName → Option Value}

theorem code_fn {R : Result → Shared → Prop} {name qual : Str} {params : Arguments} {body : List Stmt} {scope : Scope} {dV kV doc pm cdv ct oc : Value} {an od : Option Addr} {osl : Array (Option Value)} {f : Addr} {args : Args} {binds : List (Str × Value)}
    (kp : ∀ b o, h₀.get? b = some o → s.heap.get? b = some o) (X₀ : K.In h₀) (T : Top p loose mean mg mb h₀)
    (hn : ∀ q ∈ news, s.heap.get? q.1 = some q.2 ∧ h₀.get? q.1 = none)
    (ho : K.lookup f = some ⟨oc, od, .func (fnOf name qual params body scope dV kV doc pm an cdv ct), osl⟩) (hcd : codeIn K cdv qual = true) (hroom : A.depth < recursionLimit)
    (hbind : BindsTo s (fnOf name qual params body scope dV kV doc pm an cdv ct) args binds) (hloc : ∀ y ∈ binds, scope.names.lookup y.1 = some .local)
    (h : ∀ g L' h₁, (∀ b o, h₀.get? b = some o → g.get? b = some o) → KeepBut (news.map (·.1)) s.heap g → (∀ b o, g.get? b = some o → s.heap.get? b = some o) → Fr g L' h₁ (fun y => binds.reverse.lookup y) → News g L' h₁ news → K.In g → Top p loose mean mg mb g →
      wpAny (model prog w) (A.deeper (envOf qual scope L' f cdv)) (execs body (envOf qual scope L' f cdv))
        (fun fl s' => R (.ok (.ret (match fl with | .ret v => v | _ => .none))) s')
        (fun _ _ => False)
        { s with heap := h₁, toks := s.toks + binds.length })
    (hco : scope.isCoroutine = false) (hgen : scope.isGenerator = false) (hk : scope.kind = .function)
    (hcell : ∀ x ∈ scope.names, x.2 ≠ .cell) : codeAny (model prog w) A (.call (.ref f) args) R s := by
  have nm : ∀ b o, h₀.get? b = some o → b ∉ news.map (·.1) := fun b o e q => by
    obtain ⟨p, hp, rfl⟩ := List.mem_map.mp q
    rw [(hn p hp).2] at e; cases e
  have st : ∀ b o, h₀.get? b = some o → (hideAll s.heap (news.map (·.1))).get? b = some o := fun b o e => hideAll_get _ (kp b o e) (nm b o e)
  refine codeAny_call_def (fd := fnOf name qual params body scope dV kV doc pm an cdv ct) (body := body) (binds := binds) hroom (X₀.keeps kp _ _ ho) rfl (T.nolimit.keeps kp) (codeRec_of (X₀.keeps kp) hcd) rfl hbind hcell hloc (fun h₁ hns hk₁ => ?_) hco hgen hk
  refine wpAny_mono (h (hideAll s.heap (news.map (·.1))) s.heap.objs.size h₁ st (fun b o e hb => hideAll_get _ e hb) (fun b o e => of_hideAll _ e) ⟨hns, fun b o e => hk₁ b o (of_hideAll _ e), Nat.le_of_eq (hideAll_size _ _)⟩
    (fun p hp => ⟨hk₁ _ _ (hn p hp).1, Nat.ne_of_lt (Heap.lt_size (hn p hp).1), hideAll_none _ (List.mem_map_of_mem hp)⟩) (X₀.keeps st) (T.keeps st)) (fun _ _ x => x) (fun _ _ x => x.elim)
end

section
variable {prog : Program} {w : World} {A : Around} {E : Value → Shared → Prop} {s : Shared} {h₀ : Heap} {L d : Addr} {m : Str → Option Value} {news : List (Addr × Obj)} {o : Obj}

theorem item_strD {value slice : PySem.Expr} {kvs : List (Str × Value)} {k : Str} {t : Tok} {v : Value} {Q : Value → Shared → Prop} (N : News h₀ L s.heap news) (hm : (d, o) ∈ news) (hd : o.IsDictOf (PySem.strKind prog w) kvs)
    (hv : valueAt kvs k = some v) (h : Q v { s with toks := s.toks + 1 })
    (hs : subscripted slice false (.ref d) (.str k t) = operate [.ref d, .str k t] (getItem (.ref d) (.str k t))) :
    wpAny (model prog w) A (subscriptTail value slice (.ref d) (.str k t)) Q E s := by
  have hm' : s.heap.DictOf (PySem.strKind prog w) d kvs := Heap.dictOf_iff.mpr ⟨o, N.get hm, hd⟩
  exact tail_any hm'.typeIs slot_dict_getitem.lookup (wpAny_getItem_of (strKind_is prog w k t) hm'.mapOf hv h) hs

theorem set_strD {kvs kvs' : List (Str × Value)} {k : Str} {t : Tok} {v : Value} {Q : Unit → Shared → Prop} {g : Obj → List (Addr × Obj)} (F : Fr h₀ L s.heap m) (N : News h₀ L s.heap news) (U : UpdF d o news g) (hd : o.IsDictOf (PySem.strKind prog w) kvs)
    (hv : stored kvs k v = kvs') (hz : kvs.length ≤ sizeLine)
    (h : ∀ h' o', Fr h₀ L h' m → News h₀ L h' (g o') → o'.IsDictOf (PySem.strKind prog w) kvs' → Q () { s with heap := h', toks := s.toks + 1 }) :
    wpAny (model prog w) A (setItem (.ref d) (.str k t) v) Q E s := by
  obtain ⟨pre, post, rfl, hg, a, b⟩ := U.split
  have hm := N (d, o) (List.mem_append_right _ (.head _))
  refine wpAny_setItem_pairs (hsz := hz) (strKind_is prog w k t) (Heap.dictOf_iff.mpr ⟨o, hm.1, hd⟩) fun h' hmm hs => ?_
  rw [hv] at hmm
  obtain ⟨o', ho', hd'⟩ := Heap.dictOf_iff.mp hmm
  exact h h' o' (F.change hs hm.2.1 hm.2.2) (hg o' ▸ N.setAt a b hs ho') hd'
end

abbrev PR : Program := PySem.Challenge.rw_nt0016_01.row.prog

theorem KeepBut.refl (ds : List Addr) (h : Heap) : KeepBut ds h h := fun _ _ e _ => e
theorem KeepBut.trans {ds : List Addr} {h h' h'' : Heap} (a : KeepBut ds h h') (b : KeepBut ds h' h'') : KeepBut ds h h'' := fun c o e n => b c o (a c o e n) n

theorem InstAt.keepF {h₀ h : Heap} {L x C : Addr} {m : Str → Option Value} {ox : Obj} {od : Option Obj} (F : Fr h₀ L h m) (I : InstAt h₀ x ox C od) : InstAt h x ox C od :=
  ⟨F.keep _ _ I.at_, I.cls, I.no, by
    have := I.dict
    revert this
    cases ox.dict <;> cases od <;> simp only [imp_self]
    exact fun e => F.keep _ _ e⟩

/-- the caller's frame and ledger behind a call that keeps all but ds -/
theorem Fr.behind {h₀ h h' : Heap} {L : Addr} {m : Str → Option Value} {ds : List Addr} (F : Fr h₀ L h m) (k : KeepBut ds h h') (hL : L ∉ ds) (h0 : ∀ d ∈ ds, h₀.get? d = none) : Fr h₀ L h' m := by
  obtain ⟨oL, es, ep, hoL, r⟩ := F.ns
  refine ⟨⟨oL, es, ep, k _ _ hoL hL, r⟩, fun b o e => k _ _ (F.keep b o e) (fun hm => ?_), F.above⟩
  rw [h0 b hm] at e; cases e
theorem News.behind {h₀ h h' : Heap} {L : Addr} {news : List (Addr × Obj)} {ds : List Addr} (N : News h₀ L h news) (k : KeepBut ds h h') (hn : ∀ p ∈ news, p.1 ∉ ds) : News h₀ L h' news :=
  fun p hp => ⟨k _ _ (N p hp).1 (hn p hp), (N p hp).2⟩
theorem Fr.behind0 {h₀ h h' : Heap} {L : Addr} {m : Str → Option Value} (F : Fr h₀ L h m) (k : KeepBut [] h h') : Fr h₀ L h' m := Fr.behind F k (fun h => nomatch h) (fun _ h => nomatch h)
theorem News.behind0 {h₀ h h' : Heap} {L : Addr} {news : List (Addr × Obj)} (N : News h₀ L h news) (k : KeepBut [] h h') : News h₀ L h' news := News.behind N k (fun _ _ h => nomatch h)
/-- a thing that the callee made, onto the ledger -/
theorem News.made {h₀ h h' : Heap} {L a : Addr} {o : Obj} {m : Str → Option Value} {news : List (Addr × Obj)} (F : Fr h₀ L h m) (N : News h₀ L h' news) (e : h'.get? a = some o) (hn : h.get? a = none) : News h₀ L h' ((a, o) :: news) := by
  intro p hp
  rcases List.mem_cons.mp hp with rfl | hp
  · refine ⟨e, ?_, ?_⟩
    · rintro rfl
      obtain ⟨oL, _, _, hoL, _⟩ := F.ns
      rw [hn] at hoL; cases hoL
    · cases q : h₀.get? a with
      | none => rfl
      | some o' => have := F.keep _ _ q; rw [hn] at this; cases this
  · exact N p hp
theorem News.sub {h₀ h : Heap} {L : Addr} {news news' : List (Addr × Obj)} (N : News h₀ L h news) (hs : ∀ p ∈ news', p ∈ news) : News h₀ L h news' := fun p hp => N p (hs p hp)

/-- a goal that the walk does not open -/
def Held (P : Prop) : Prop := P
theorem hold {P : Prop} (h : Held P) : P := h

/-- the tree of a while by an invariant over the state and a measure -/
theorem while_own {prog : Program} {w : World} {A : Around} {E : Value → Shared → Prop} {s : Shared} {env : Env} {test : PySem.Expr} {body : List Stmt} {pos : Pos} {Q : Flow → Shared → Prop} (Inv : Nat → Shared → Prop) (n : Nat) (h0 : Inv n s)
    (turn : ∀ n s, Inv n s → wpAny (model prog w) A (isTrue test env (eval test env)) (fun b s₂ =>
        if b then wpAny (model prog w) A (execs body env) (fun f s₃ => match f with
            | .ret v => Q (.ret v) s₃
            | .brk => Q .next s₃
            | _ => Held (∃ m, m < n ∧ Inv m s₃)) (fun _ _ => False) s₂
        else Q .next s₂) (fun _ _ => False) s) :
    wpAny (model prog w) A (exec (.While test body [] pos) env) Q E s := by
  refine wpAny_While (codeAny_whileLoop Inv (fun n s hI => ?_) n h0)
  refine wpAny_mono (turn n s hI) (fun b s₂ h₂ => ?_) fun _ _ x => x.elim
  cases b with
  | false =>
    simp only [Bool.false_eq_true, if_false] at h₂ ⊢
    exact wpAny_execs_nil h₂
  | true =>
    simp only [if_true] at h₂ ⊢
    refine wpAny_mono h₂ (fun f s₃ h₃ => ?_) fun _ _ x => x.elim
    cases f <;> exact h₃

section
variable {prog : Program} {w : World} {A : Around} {E : Value → Shared → Prop} {s : Shared}
theorem item_listV {value slice : PySem.Expr} {l : Addr} {vs : List Value} {k : Int} {u : Tok} {v : Value} {Q : Value → Shared → Prop} (hl : s.heap.IsList l vs.toArray) (h0 : 0 ≤ k) (hhi : k < 2 ^ 63) (hx : vs[k.toNat]? = some v) (h : Q v s)
    (hs : subscripted slice false (.ref l) (.int k u) = operate [.ref l, .int k u] (getItem (.ref l) (.int k u))) :
    wpAny (model prog w) A (subscriptTail value slice (.ref l) (.int k u)) Q E s := tail_any hl.typeIs slot_list_getitem.lookup (wpAny_getItem_list hl h0 hhi (by simpa using hx) h) hs
end

section
variable {prog : Program} {w : World} {K : Type} [DecidableEq K] {knd : KeyKind prog w K} {A : Around} {E : Value → Shared → Prop} {s : Shared} {d : Addr} {kvs : List (K × Value)} {k : K} {key : Value}
theorem in_dictO {Q : Value → Shared → Prop} (hd : s.heap.DictOf knd d kvs) (hds : (d == sysModules) = false) (hkey : knd.is k key = true) (h : Q (.bool (valueAt kvs k).isSome) { s with toks := s.toks + 1 }) :
    wpAny (model prog w) A (compareOp .In key (.ref d)) Q E s := wpAny_in_of hkey hds hd.mapOf h
theorem notin_dictO {Q : Value → Shared → Prop} (hd : s.heap.DictOf knd d kvs) (hds : (d == sysModules) = false) (hkey : knd.is k key = true) (h : Q (.bool (!(valueAt kvs k).isSome)) { s with toks := s.toks + 1 }) :
    wpAny (model prog w) A (compareOp .NotIn key (.ref d)) Q E s := wpAny_notIn_of hkey hds hd.mapOf h
theorem item_dictO {value slice : PySem.Expr} {v : Value} {Q : Value → Shared → Prop} (hd : s.heap.DictOf knd d kvs) (hkey : knd.is k key = true) (hv : valueAt kvs k = some v) (h : Q v { s with toks := s.toks + 1 })
    (hs : subscripted slice false (.ref d) key = operate [.ref d, key] (getItem (.ref d) key)) : wpAny (model prog w) A (subscriptTail value slice (.ref d) key) Q E s :=
  tail_any hd.typeIs slot_dict_getitem.lookup (wpAny_getItem_of hkey hd.mapOf hv h) hs
theorem getm_dictO {pl : Sem Bool} {Q : Value × List Value → Shared → Prop} (hd : s.heap.DictOf knd d kvs) (h : Q (.builtin "dict.get", [.ref d]) s) : wpAny (model prog w) A (getMethod (.ref d) "get" pl) Q E s :=
  getMethod_builtin hd.typeIs PySem.F.plainAttrs_dict PySem.F.slot_dict_get PySem.F.type_dict_get hd.mapOf.noDict h
theorem get1_dictO {Q : Value → Shared → Prop} (hd : s.heap.DictOf knd d kvs) (hds : (d == sysModules) = false) (hkey : knd.is k key = true) (h : Q ((valueAt kvs k).getD .none) { s with toks := s.toks + 1 }) :
    wpAny (model prog w) A (call (.builtin "dict.get") [.ref d, key]) Q E s :=
  call_meetsIn PySem.F.slot_dict_get hd.typeIs PySem.F.entry_dict_get (PySem.F.args_dict_get_2 _ _) (meets_dict_get knd d hkey hds) ⟨_, hd.mapOf, h⟩
theorem get2_dictO {dflt : Value} {Q : Value → Shared → Prop} (hd : s.heap.DictOf knd d kvs) (hds : (d == sysModules) = false) (hkey : knd.is k key = true) (h : Q ((valueAt kvs k).getD dflt) { s with toks := s.toks + 1 }) :
    wpAny (model prog w) A (call (.builtin "dict.get") [.ref d, key, dflt]) Q E s :=
  call_meetsIn PySem.F.slot_dict_get hd.typeIs PySem.F.entry_dict_get (PySem.F.args_dict_get_3 _ _ _) (meets_dict_get_default knd d hkey hds dflt) ⟨_, hd.mapOf, h⟩
end
theorem News.lastFirst {h₀ h : Heap} {L : Addr} {news : List (Addr × Obj)} (N : News h₀ L h news) (hne : news ≠ []) : News h₀ L h (news.getLast hne :: news.dropLast) := by
  intro p hp
  rcases List.mem_cons.mp hp with rfl | hp
  · exact N _ (List.getLast_mem hne)
  · exact N p (List.dropLast_subset _ hp)
end

section
/-- the end of a turn: left by return or break, or the next turn's word -/
def TurnEnd (Q : Flow → Shared → Prop) (J : Shared → Prop) (f : Flow) (s : Shared) : Prop :=
  match f with
  | .ret v => Q (.ret v) s
  | .brk => Q .next s
  | _ => J s

/-- what a turn's end hands on -/
def TurnK (h₀ : Heap) (L : Addr) (s₀ : Shared) (I : Addr) (it : Obj) (J : (Str → Option Value) → List (Addr × Obj) → Prop) (s' : Shared) : Prop :=
  ∃ h' tk m' news', s' = { s₀ with heap := h', toks := tk } ∧ Fr h₀ L h' m' ∧ News h₀ L h' ((I, it) :: news') ∧ (∀ p ∈ news', p.1 ≠ I) ∧ J m' news'
theorem TurnK.intro {h₀ h' : Heap} {L I : Addr} {s₀ : Shared} {it : Obj} {J : (Str → Option Value) → List (Addr × Obj) → Prop} {tk : Nat} {m' : Str → Option Value} {news news' : List (Addr × Obj)}
    (F : Fr h₀ L h' m') (N : News h₀ L h' news) (hs : ∀ p ∈ (I, it) :: news', p ∈ news) (hI : ∀ p ∈ news', p.1 ≠ I) (hJ : J m' news') : TurnK h₀ L s₀ I it J { s₀ with heap := h', toks := tk } :=
  ⟨h', tk, m', news', rfl, F, News.sub N hs, hI, hJ⟩

section
variable {prog : Program} {w : World} {A : Around} {R : Result → Shared → Prop} {s : Shared}
theorem forLoop_own {target it body orelse env} (I : Nat → Shared → Prop)
    (turn : ∀ n s, I n s → wpAny (model prog w) A (pyNext it) (fun r s₁ => match r with
      | none => wpAny (model prog w) A (execs orelse env) (fun f s₃ => R (.ok f) s₃) (notedBy (model prog w) A env fun e s' => R (.error e) s') s₁
      | some v => wpAny (model prog w) A (letOwnedTupleGo target it v) (fun _ s₁' => wpAny (model prog w) A (assign target env v) (fun _ s₂ => wpAny (model prog w) A (execs body env) (fun f s₃ => match f with
          | .next | .cont => ∃ m, m < n ∧ I m s₃
          | .brk => R (.ok .next) s₃
          | .ret v => R (.ok (.ret v)) s₃) (notedBy (model prog w) A env fun e s' => R (.error e) s') s₂) (notedBy (model prog w) A env fun e s' => R (.error e) s') s₁') (notedBy (model prog w) A env fun e s' => R (.error e) s') s₁) (notedBy (model prog w) A env fun e s' => R (.error e) s') s)
    (n : Nat) (h : I n s) : codeAny (model prog w) A (.forLoop target it body orelse env) R s := by
  refine codeAny_loop' rfl I (fun n s hI => ?_) n h
  show wpAny _ _ ((forTurn target it body orelse env).onRaise (fun x => do noteFrame x env; theTreesLotGoes x)) _ _ s
  refine wpAny_noted ?_
  simp only [forTurn]
  refine wpAny_bind (wpAny_standAt (wpAny_bind (wpAny_onRaise (wpAny_mono (turn n s hI) (fun r s₁ h₁ => ?_) fun _ _ h' => wpAny_standAt h'))))
  cases r with
  | none => exact wpAny_pure (.inr ⟨rfl, codeAny_block h₁⟩)
  | some v =>
    refine wpAny_bind (wpAny_mono h₁ (fun _ s₁' h₁' => ?_) fun _ _ h' => h')
    refine wpAny_bind (wpAny_mono h₁' (fun _ s₂ h₂ => wpAny_bind (wpAny_mono h₂ (fun f s₃ h₃ => ?_) fun _ _ h' => h')) fun _ _ h' => h')
    cases f with
    | next => exact wpAny_pure (.inl ⟨rfl, h₃⟩)
    | cont => exact wpAny_pure (.inl ⟨rfl, h₃⟩)
    | brk => exact wpAny_pure h₃
    | ret v => exact wpAny_pure h₃

theorem let_go {target : PySem.Expr} {I : Addr} {it : Obj} {v : Value} {Q : Unit → Shared → Prop} {E : Value → Shared → Prop} {nm : String} (e : s.heap.get? I = some it) (hc : it.cls = .type nm)
    (hn : (["enumerate", "zip", "dict_itemiterator", "dict_reverseitemiterator", "odict_iterator", "itertools.zip_longest", "itertools.pairwise"].contains nm) = false) (h : Q () s) :
    wpAny (model prog w) A (letOwnedTupleGo target (.ref I) v) Q E s := by
  have main : ∀ a : Addr, wpAny (model prog w) A (do
      let o ← load I
      match o.cls, o.data with
      | .type n, .fields vs =>
        if ["enumerate", "zip", "dict_itemiterator", "dict_reverseitemiterator", "odict_iterator", "itertools.zip_longest", "itertools.pairwise"].contains n && vs[0]? == some (rawInt a) then
          rule "for.unpacks-the-owned-tuple"
          updateField I 0 .none
      | _, _ => pure ()) Q E s := by
    intro a
    refine wpAny_bind (wpAny_load e ?_)
    rw [hc]
    cases it.data with
    | fields vs =>
      dsimp only
      rw [if_neg (by rw [hn, Bool.false_and]; exact Bool.false_ne_true)]
      exact wpAny_pure h
    | _ => exact wpAny_pure h
  unfold letOwnedTupleGo
  split
  · cases v <;> first | exact wpAny_pure h | exact main _
  · cases v <;> first | exact wpAny_pure h | exact main _
  · exact wpAny_pure h
end

section
variable {prog : Program} {w : World} {A : Around} {E : Value → Shared → Prop} {s : Shared} {h₀ : Heap} {m : Str → Option Value} {news : List (Addr × Obj)} {env : Env}

theorem forW {target : PySem.Expr} {body : List Stmt} {Q : Flow → Shared → Prop} {I : Addr} {fp : List Addr} {n : Nat} {P : Nat → Value → Prop} {St : Nat → Heap → Prop}
    (Ob : Nat → Obj → Prop) (J : Nat → (Str → Option Value) → List (Addr × Obj) → Prop)
    (W : Walks prog w A I fp [I] n P St) (F : Fr h₀ env.locals s.heap m) (N : News h₀ env.locals s.heap news) (hJ0 : J 0 m news) (hI0 : h₀.get? I = none) (hIL : I ≠ env.locals) (hnI : ∀ p ∈ news, p.1 ≠ I) (hst0 : St 0 s.heap)
    (hlet : ∀ i it v (s : Shared) (Q : Unit → Shared → Prop) (E : Value → Shared → Prop), Ob i it → s.heap.get? I = some it → Q () s → wpAny (model prog w) A (letOwnedTupleGo target (.ref I) v) Q E s)
    (hob : ∀ i h, St i h → ∃ it, Ob i it ∧ h.get? I = some it)
    (hst : ∀ i it m news h, Ob i it → h.get? I = some it → J i m news → Fr h₀ env.locals h m → News h₀ env.locals h news → St i h)
    (hst2 : ∀ i it m news h, Ob (i + 1) it → h.get? I = some it → J (i + 1) m news → Fr h₀ env.locals h m → News h₀ env.locals h news → St (i + 1) h)
    (turn : ∀ i v it m₁ news₁ h tk, i < n → P i v → Ob (i + 1) it → J i m₁ news₁ → (∀ p ∈ news₁, p.1 ≠ I) → Fr h₀ env.locals h m₁ → News h₀ env.locals h ((I, it) :: news₁) →
      wpAny (model prog w) A (assign target env v) (fun _ s' => wpAny (model prog w) A (execs body env) (TurnEnd Q (TurnK h₀ env.locals s I it (J (i + 1)))) (fun _ _ => False) s') (fun _ _ => False) { s with heap := h, toks := tk })
    (done : ∀ m₁ news₁ h tk, J n m₁ news₁ → Fr h₀ env.locals h m₁ → News h₀ env.locals h news₁ → Q .next { s with heap := h, toks := tk }) :
    codeAny (model prog w) A (.forLoop target (.ref I) body [] env) (fun r s' => match r with | .ok f => Q f s' | .error e => cameBackBy (model prog w) A env E e s') s := by
  refine forLoop_own (fun k s' => ∃ i h tk m₁ news₁, s' = { s with heap := h, toks := tk } ∧ k = n + 1 - i ∧ i ≤ n ∧ St i h ∧ Fr h₀ env.locals h m₁ ∧ News h₀ env.locals h news₁ ∧ (∀ p ∈ news₁, p.1 ≠ I) ∧ J i m₁ news₁) ?_ (n + 1)
    ⟨0, s.heap, s.toks, m, news, rfl, rfl, Nat.zero_le _, hst0, F, N, hnI, hJ0⟩
  rintro k s' ⟨i, h, tk, m₁, news₁, rfl, rfl, hi, hsti, F₁, N₁, hnI₁, hJ₁⟩
  by_cases hlt : i < n
  · refine W.item i _ _ _ hlt hsti fun v h₁ tk₁ hP hst₁ hk₁ => ?_
    obtain ⟨it, hOb, hit⟩ := hob _ _ hst₁
    have F₂ : Fr h₀ env.locals h₁ m₁ := by
      obtain ⟨oL, es, ep, hoL, r⟩ := F₁.ns
      exact ⟨⟨oL, es, ep, hk₁ _ _ (by simpa using fun e => hIL e.symm) hoL, r⟩, fun b o e => hk₁ _ _ (by simp; rintro rfl; rw [hI0] at e; cases e) (F₁.keep b o e), F₁.above⟩
    have N₂ : News h₀ env.locals h₁ ((I, it) :: news₁) := by
      intro p hp
      rcases List.mem_cons.mp hp with rfl | hp
      · exact ⟨hit, hIL, hI0⟩
      · exact ⟨hk₁ _ _ (by simpa using hnI₁ p hp) (N₁ p hp).1, (N₁ p hp).2⟩
    refine hlet _ it v _ _ _ hOb hit ?_
    refine wpAny_mono (turn i v it m₁ news₁ h₁ tk₁ hlt hP hOb hJ₁ hnI₁ F₂ N₂) (fun _ s₃ h₃ => wpAny_mono h₃ (fun f s₄ h₄ => ?_) fun _ _ x => x.elim) fun _ _ x => x.elim
    have fin : TurnK h₀ env.locals s I it (J (i + 1)) s₄ → ∃ k', k' < n + 1 - i ∧ ∃ i h tk m₁ news₁, s₄ = { s with heap := h, toks := tk } ∧ k' = n + 1 - i ∧ i ≤ n ∧ St i h ∧ Fr h₀ env.locals h m₁ ∧ News h₀ env.locals h news₁ ∧ (∀ p ∈ news₁, p.1 ≠ I) ∧ J i m₁ news₁ := by
      rintro ⟨h', tk', m', news', rfl, F', N', hI', hJ'⟩
      have N'' : News h₀ env.locals h' news' := fun p hp => N' p (.tail _ hp)
      exact ⟨n + 1 - (i + 1), by omega, i + 1, h', tk', m', news', rfl, rfl, hlt, hst2 i it m' news' h' hOb (N' _ (.head _)).1 hJ' F' N'', F', N'', hI', hJ'⟩
    cases f with
    | ret v => exact h₄
    | brk => exact h₄
    | next => exact fin h₄
    | cont => exact fin h₄
  · have hin : i = n := by omega
    subst hin
    refine W.done _ _ _ hsti fun h₁ tk₁ hk₁ => wpAny_execs_nil ?_
    refine done m₁ news₁ h₁ tk₁ hJ₁ ?_ fun p hp => ⟨hk₁ _ _ (by simpa using hnI₁ p hp) (N₁ p hp).1, (N₁ p hp).2⟩
    obtain ⟨oL, es, ep, hoL, r⟩ := F₁.ns
    exact ⟨⟨oL, es, ep, hk₁ _ _ (by simpa using fun e => hIL e.symm) hoL, r⟩, fun b o e => hk₁ _ _ (by simp; rintro rfl; rw [hI0] at e; cases e) (F₁.keep b o e), F₁.above⟩

/-- a list iterator's object -/
def ObL (ax : Addr) (i : Nat) (it : Obj) : Prop := it.cls = .type "list_iterator" ∧ it.data = .fields #[.ref ax, .int i 0]
def ObT (ax : Addr) (i : Nat) (it : Obj) : Prop := it.cls = .type "tuple_iterator" ∧ it.data = .fields #[.ref ax, .int i 0]

theorem for_list {target : PySem.Expr} {body : List Stmt} {Q : Flow → Shared → Prop} {ax : Addr} {items : Array Value}
    (J : Addr → Nat → (Str → Option Value) → List (Addr × Obj) → Prop) (hh : A.handled = none)
    (F : Fr h₀ env.locals s.heap m) (N : News h₀ env.locals s.heap news) (hJ0 : J ax 0 m news)
    (hax : ∀ i m news h, J ax i m news → Fr h₀ env.locals h m → News h₀ env.locals h news → h.IsList ax items)
    (turn : ∀ I i v it m₁ news₁ h tk, i < items.size → items[i]? = some v → ObL ax (i + 1) it → J ax i m₁ news₁ → (∀ p ∈ news, p.1 < I) → (∀ p ∈ news₁, p.1 ≠ I) → ax < I → Fr h₀ env.locals h m₁ → News h₀ env.locals h ((I, it) :: news₁) →
      wpAny (model prog w) A (assign target env v) (fun _ s' => wpAny (model prog w) A (execs body env) (TurnEnd Q (TurnK h₀ env.locals s I it (J ax (i + 1)))) (fun _ _ => False) s') (fun _ _ => False) { s with heap := h, toks := tk })
    (done : ∀ m₁ news₁ h tk, J ax items.size m₁ news₁ → Fr h₀ env.locals h m₁ → News h₀ env.locals h news₁ → Q .next { s with heap := h, toks := tk }) :
    wpAny (model prog w) A (pyIter (.ref ax)) (fun it s₂ => codeAny (model prog w) A (.forLoop target it body [] env) (fun r s' => match r with | .ok f => Q f s' | .error e => cameBackBy (model prog w) A env E e s') s₂) E s := by
  have hls := hax 0 m news s.heap hJ0 F N
  obtain ⟨ol, hol, _⟩ := id hls
  have hlt : ax < s.heap.objs.size := Heap.lt_size hol
  have hne : ax ≠ s.heap.objs.size := Nat.ne_of_lt hlt
  refine wpAny_pyIter_list hls ?_
  have F' := F.push { cls := .type "list_iterator", data := .fields #[.ref ax, .int 0 0] }
  have N' : News h₀ env.locals (s.heap.push { cls := .type "list_iterator", data := .fields #[.ref ax, .int 0 0] }) news := fun p hp => ⟨Heap.get?_push_of_some _ (N p hp).1, (N p hp).2⟩
  have hn : ∀ p ∈ news, p.1 < s.heap.objs.size := fun p hp => Heap.lt_size (N p hp).1
  refine forW (s := { s with heap := _ }) (ObL ax) (J ax) (Walks.list (prog := prog) (w := w) hh s.heap.objs.size ax hne items) F' N' hJ0 (next_is_new F) ?_ (fun p hp => Nat.ne_of_lt (hn p hp)) ⟨⟨_, Heap.get?_push_size _ rfl, rfl, rfl⟩, hls.at fun o e => Heap.get?_push_of_some _ e⟩
    ?_ ?_ ?_ ?_ (fun i v it m₁ news₁ h tk hi hP hOb hJ hnI F N => turn s.heap.objs.size i v it m₁ news₁ h tk hi hP hOb hJ hn hnI hlt F N) done
  · obtain ⟨oL, _, _, hoL, _⟩ := F.ns
    exact Nat.ne_of_gt (Heap.lt_size hoL)
  · rintro i it v s Q E ⟨b, c⟩ e h
    exact let_go e b (by decide) h
  · rintro i h ⟨⟨it, a, b, c⟩, _⟩
    exact ⟨it, ⟨b, c⟩, a⟩
  · rintro i it m₁ news₁ h ⟨b, c⟩ a hJ F N
    exact ⟨⟨it, a, b, c⟩, hax i m₁ news₁ h hJ F N⟩
  · rintro i it m₁ news₁ h ⟨b, c⟩ a hJ F N
    exact ⟨⟨it, a, b, c⟩, hax (i + 1) m₁ news₁ h hJ F N⟩

theorem for_tup {target : PySem.Expr} {body : List Stmt} {Q : Flow → Shared → Prop} {ax : Addr} {items : Array Value}
    (J : Addr → Nat → (Str → Option Value) → List (Addr × Obj) → Prop) (hh : A.handled = none)
    (F : Fr h₀ env.locals s.heap m) (N : News h₀ env.locals s.heap news) (hJ0 : J ax 0 m news)
    (hax : ∀ i m news h, J ax i m news → Fr h₀ env.locals h m → News h₀ env.locals h news → h.IsTuple ax items)
    (turn : ∀ I i v it m₁ news₁ h tk, i < items.size → items[i]? = some v → ObT ax (i + 1) it → J ax i m₁ news₁ → (∀ p ∈ news, p.1 < I) → (∀ p ∈ news₁, p.1 ≠ I) → ax < I → Fr h₀ env.locals h m₁ → News h₀ env.locals h ((I, it) :: news₁) →
      wpAny (model prog w) A (assign target env v) (fun _ s' => wpAny (model prog w) A (execs body env) (TurnEnd Q (TurnK h₀ env.locals s I it (J ax (i + 1)))) (fun _ _ => False) s') (fun _ _ => False) { s with heap := h, toks := tk })
    (done : ∀ m₁ news₁ h tk, J ax items.size m₁ news₁ → Fr h₀ env.locals h m₁ → News h₀ env.locals h news₁ → Q .next { s with heap := h, toks := tk }) :
    wpAny (model prog w) A (pyIter (.ref ax)) (fun it s₂ => codeAny (model prog w) A (.forLoop target it body [] env) (fun r s' => match r with | .ok f => Q f s' | .error e => cameBackBy (model prog w) A env E e s') s₂) E s := by
  have hls := hax 0 m news s.heap hJ0 F N
  obtain ⟨ol, hol, _⟩ := id hls
  have hlt : ax < s.heap.objs.size := Heap.lt_size hol
  have hne : ax ≠ s.heap.objs.size := Nat.ne_of_lt hlt
  refine wpAny_pyIter_tuple hls ?_
  have F' := F.push { cls := .type "tuple_iterator", data := .fields #[.ref ax, .int 0 0] }
  have N' : News h₀ env.locals (s.heap.push { cls := .type "tuple_iterator", data := .fields #[.ref ax, .int 0 0] }) news := fun p hp => ⟨Heap.get?_push_of_some _ (N p hp).1, (N p hp).2⟩
  have hn : ∀ p ∈ news, p.1 < s.heap.objs.size := fun p hp => Heap.lt_size (N p hp).1
  refine forW (s := { s with heap := _ }) (ObT ax) (J ax) (Walks.tuple (prog := prog) (w := w) hh s.heap.objs.size ax hne items) F' N' hJ0 (next_is_new F) ?_ (fun p hp => Nat.ne_of_lt (hn p hp)) ⟨⟨_, Heap.get?_push_size _ rfl, rfl, rfl⟩, hls.at fun o e => Heap.get?_push_of_some _ e⟩
    ?_ ?_ ?_ ?_ (fun i v it m₁ news₁ h tk hi hP hOb hJ hnI F N => turn s.heap.objs.size i v it m₁ news₁ h tk hi hP hOb hJ hn hnI hlt F N) done
  · obtain ⟨oL, _, _, hoL, _⟩ := F.ns
    exact Nat.ne_of_gt (Heap.lt_size hoL)
  · rintro i it v s Q E ⟨b, c⟩ e h
    exact let_go e b (by decide) h
  · rintro i h ⟨⟨it, a, b, c⟩, _⟩
    exact ⟨it, ⟨b, c⟩, a⟩
  · rintro i it m₁ news₁ h ⟨b, c⟩ a hJ F N
    exact ⟨⟨it, a, b, c⟩, hax i m₁ news₁ h hJ F N⟩
  · rintro i it m₁ news₁ h ⟨b, c⟩ a hJ F N
    exact ⟨⟨it, a, b, c⟩, hax (i + 1) m₁ news₁ h hJ F N⟩
end
end
local macro_rules | `(tactic| units_room) => `(tactic| (show _ < 9900; (simp only [units_deeper, units_in1, Around.mark_units]); (try dsimp only); omega))
local macro_rules | `(tactic| k_units) => `(tactic| (show _ < 9900; (simp only [units_deeper, units_in1, Around.mark_units]); (try dsimp only); omega))
local macro_rules | `(tactic| walk_at "subscriptTail") => `(tactic| (k_here; (with_reducible show wpAny _ _ (subscriptTail _ _ (Value.ref _) (Value.str _ _)) _ _ _); k_dflt (refine' item_strD ?N ?m ?d ?v ?_ ?s; (case N => k_asm); (case m => k_mem); (case d => assumption); (case v => exact rfl); (case s => with_unfolding_all rfl); k_whole)))
local macro_rules | `(tactic| walk_at "setItem ref str") => `(tactic| (k_here; k_dflt (refine' set_strD ?F ?N ?U ?d ?v ?z ?_; (case F => k_asm); (case N => k_asm); (case U => k_updF); (case d => assumption); (case v => kernel_rfl); (case z => exact Nat.le_of_ble_eq_true rfl); k_whole); intro h' o' F' N' hd'; (try k_sweep)))
local macro_rules | `(tactic| k_inst) => `(tactic| exact InstAt.keepF (by assumption) (by assumption))
local macro_rules | `(tactic| walk_at "eval Name") => `(tactic| (k_here; (with_reducible show wpAny _ _ (eval (Expr.Name _ _) (envOf _ _ _ _ _)) _ _ _); k_dflt (refine' ld ?k1 ?k2 ?_; (case k1 => k_asm); (case k2 => assumption); k_whole)))
local macro_rules | `(tactic| walk_at "eval Name") => `(tactic| (k_here; (with_reducible show wpAny _ _ (eval (Expr.Name _ _) (envOfC _ _ _ _ _)) _ _ _); k_dflt (refine' nameX_L ?k1 ?k2 ?_ ?hk ?hx ?hd; (case hx => kernel_rfl!); (case hk => exact rfl); (case hd => decide); (case k1 => k_asm); (case k2 => first | exact rfl | assumption); k_whole)))
local macro_rules | `(tactic| walk_at "eval Name") => `(tactic| (k_here; (with_reducible show wpAny _ _ (eval (Expr.Name _ _) (envOfC _ _ _ _ _)) _ _ _); k_dflt (refine' nameX_C ?k1 ?kc ?km ?kd ?_ ?hk ?hx ?hb; (case hx => kernel_rfl!); (case hk => exact rfl); (case hb => decide); (case k1 => k_asm); (case kc => exact rfl); (case km => k_mem); (case kd => assumption); k_whole)))
example (w : World) (h : Heap) : PySem.Challenge.rw_nt0016_01.row.prog = PySem.Challenge.rw_nt0016_01.row.prog ∧ ((hd.heap_1 w.params).In h → True) := by k_fill; exact ⟨rfl, fun _ => trivial⟩
section
local macro_rules | `(tactic| walk_at "exec While Compare cons nil") => `(tactic| with_reducible refine hold ?_)
local macro_rules | `(tactic| walk_at "exec For Name Name cons nil") => `(tactic| with_reducible refine hold ?_)
local macro_rules | `(tactic| walk_at "exec For Name Call cons nil") => `(tactic| with_reducible refine hold ?_)
local macro_rules | `(tactic| walk_at "exec For Name Subscript cons nil") => `(tactic| with_reducible refine hold ?_)
local macro_rules | `(tactic| walk_at "exec For Tuple Tuple cons nil") => `(tactic| with_reducible refine hold ?_)
local macro_rules | `(tactic| walk_at "eval ListComp Name cons") => `(tactic| with_reducible refine hold ?_)
local macro_rules | `(tactic| walk_at "eval ListComp Tuple cons") => `(tactic| with_reducible refine hold ?_)
local macro_rules | `(tactic| walk_at "eval ListComp Subscript cons") => `(tactic| with_reducible refine hold ?_)
local macro_rules | `(tactic| walk_at "call ref") => `(tactic| with_reducible refine hold ?_)
local macro_rules | `(tactic| walk_at "call builtin:sorted") => `(tactic| with_reducible refine hold ?_)
local macro_rules | `(tactic| walk_at "call type:tuple") => `(tactic| with_reducible refine hold ?_)
local macro_rules | `(tactic| walk_at "call type:list") => `(tactic| with_reducible refine hold ?_)
local macro_rules | `(tactic| walk_at "call builtin:list.append") => `(tactic| with_reducible refine hold ?_)
local macro_rules | `(tactic| walk_at "compareOp In str ref") => `(tactic| with_reducible refine hold ?_)
local macro_rules | `(tactic| walk_at "compareOp NotIn str ref") => `(tactic| with_reducible refine hold ?_)
local macro_rules | `(tactic| k_all) => `(tactic| assumption)
local macro_rules | `(tactic| walk_at "pyIter ref") => `(tactic| with_reducible refine hold ?_)

section
def cntLe (ns : List Int) (x : Int) : Nat := (ns.filter (fun n => decide (n ≤ x))).length

theorem cnt_of {ns : List Int} {x lo : Int} (h0 : 0 ≤ lo) (h1 : lo ≤ ns.length) (ha : ∀ k : Nat, (k : Int) < lo → ns.getD k 0 ≤ x) (hb : ∀ k : Nat, lo ≤ (k : Int) → k < ns.length → x < ns.getD k 0) : (cntLe ns x : Int) = lo := by
  obtain ⟨n, rfl⟩ := Int.eq_ofNat_of_zero_le h0
  have hn : n ≤ ns.length := by omega
  have e1 : (ns.take n).filter (fun m => decide (m ≤ x)) = ns.take n := by
    rw [List.filter_eq_self]
    intro a hm
    obtain ⟨i, hi, rfl⟩ := List.getElem_of_mem hm
    have hi' : i < n := by simp at hi; omega
    have := ha i (by omega)
    rw [List.getD_eq_getElem?_getD, List.getElem?_eq_getElem (by omega)] at this
    simpa using this
  have e2 : (ns.drop n).filter (fun m => decide (m ≤ x)) = [] := by
    rw [List.filter_eq_nil_iff]
    intro a hm
    obtain ⟨i, hi, rfl⟩ := List.getElem_of_mem hm
    have hi' : n + i < ns.length := by simp at hi; omega
    have := hb (n + i) (by omega) hi'
    rw [List.getD_eq_getElem?_getD, List.getElem?_eq_getElem hi'] at this
    simp at this ⊢
    omega
  have : ns.filter (fun m => decide (m ≤ x)) = ns.take n := by
    conv => lhs; rw [← List.take_append_drop n ns]
    rw [List.filter_append, e1, e2, List.append_nil]
  unfold cntLe
  rw [this, List.length_take]
  omega

theorem sorted_getD_lt {l : List Int} (hl : l.Pairwise (· < ·)) {i j : Nat} (hij : i < j) (hj : j < l.length) : l.getD i 0 < l.getD j 0 := by
  have hi : i < l.length := by omega
  rw [List.getD_eq_getElem?_getD, List.getD_eq_getElem?_getD, List.getElem?_eq_getElem hi, List.getElem?_eq_getElem hj]
  exact List.pairwise_iff_getElem.mp hl i j hi hj hij

section
variable {w : World} {mg mb : Str → Option Value} {mean : ExcName → Option Value} {loose : List Str} {h₀ : Heap} {dp un : Nat} {fr : Option (List Env)} {gd : Option (List Code)} {s : Shared} {Q : Value → Shared → Prop} {E : Value → Shared → Prop}

theorem place_ok {fl : Addr} {x : Int} {tx : Tok} {vs : List Value} {ns : List Int}
    (kp : ∀ b o, h₀.get? b = some o → s.heap.get? b = some o) (X : (hd.heap_1 w.params).In h₀) (T : Top hVw loose mean mg mb h₀) (hdp : dp ≤ 900) (hun : un ≤ 9000)
    (hC : s.heap.IsList fl vs.toArray) (hi : IntsAre vs ns) (hln : ns.length ≤ 1000) (hs : ns.Pairwise (· < ·))
    (ret : ∀ t h' tk', KeepBut [] s.heap h' → Q (.int ((cntLe ns x : Int) - 1) t) { s with heap := h', toks := tk' }) :
    wpAny (model PR w) (AX dp un fr gd) (call (.ref 70) [.ref fl, .int x tx]) Q E s := by
  refine wpAny_call ?_
  refine' code_fn (news := []) (binds := [(Str.ofString "firsts", .ref fl), (Str.ofString "number", .int x tx)]) ?k1 ?k2 ?k3 ?k4 ?k6 ?k7 ?k8 ?k9 ?kB ?_ ?c2 ?c3 ?c4 ?c5
  case k1 => exact kp
  case k2 => exact X
  case k3 => exact T
  case k4 => (intro q hq; exact nomatch hq)
  case k6 => k_is
  case k7 => k_is
  case k8 => (simp only [recursionLimit] at *; omega)
  case k9 => first | exact BindsTo.of_eq rfl | exact binds_K (X.keeps kp) rfl (by k_is) rfl rfl rfl
  case kB => exact locs rfl
  case c2 => exact rfl
  case c3 => exact rfl
  case c4 => exact rfl
  case c5 => decide
  intro g L' h₁ hg hkg hgs F N X' T'
  dsimp only
  k_fold
  have hCg : g.IsList fl vs.toArray := by
    obtain ⟨o, ho, r⟩ := hC
    exact ⟨o, hkg _ _ ho (fun h => nomatch h), r⟩
  have hlen := hi.length
  k_steps
  show wpAny _ _ _ _ _ _
  rename Fr _ _ _ _ => F1
  rename News _ _ _ _ => N1
  refine while_own (fun n s' => ∃ h tk m lo hi tlo thi, s' = { s with heap := h, toks := tk } ∧ Fr g L' h m ∧ News g L' h [] ∧ m (Str.ofString "firsts") = some (.ref fl) ∧ m (Str.ofString "number") = some (.int x tx) ∧
    m (Str.ofString "low") = some (.int lo tlo) ∧ m (Str.ofString "high") = some (.int hi thi) ∧ 0 ≤ lo ∧ lo ≤ hi ∧ hi ≤ ns.length ∧ (∀ k : Nat, (k : Int) < lo → ns.getD k 0 ≤ x) ∧ (∀ k : Nat, hi ≤ (k : Int) → k < ns.length → x < ns.getD k 0) ∧ n = (hi - lo).toNat) _
    ⟨_, _, _, 0, ns.length, _, _, rfl, F1, N1, rfl, rfl, rfl, rfl, by omega, by omega, by omega, fun k hk => by omega, fun k hk hk2 => by omega, rfl⟩ ?_
  rintro n s' ⟨h, tk, m, lo, hi', tlo, thi, rfl, F2, N2, m1, m2, m3, m4, b0, b1, b2, b3, b4, rfl⟩
  clear F1 N1
  have hmid : lo < hi' → lo ≤ Int.fdiv (lo + hi') 2 ∧ Int.fdiv (lo + hi') 2 < hi' := by
    intro hlt
    rw [Int.fdiv_eq_ediv_of_nonneg _ (by decide)]
    omega
  k_steps
  · -- low moves
    rename Fr _ _ _ _ => F3
    rename News _ _ _ _ => N3
    refine ⟨_, ?_, _, _, _, _, _, _, _, rfl, F3, N3, m1, m2, rfl, m4, ?_, ?_, b2, ?_, b4, rfl⟩
    all_goals (have hm := hmid (by assumption))
    · omega
    · omega
    · omega
    · intro k hk
      have hx : ns.getD (Int.fdiv (lo + hi') 2).toNat 0 ≤ x := by assumption
      rcases Nat.lt_or_ge k (Int.fdiv (lo + hi') 2).toNat with h1 | h1
      · have := sorted_getD_lt hs h1 (by omega); omega
      · have : k = (Int.fdiv (lo + hi') 2).toNat := by omega
        rw [this]; exact hx
  · -- high moves
    rename Fr _ _ _ _ => F3
    rename News _ _ _ _ => N3
    refine ⟨_, ?_, _, _, _, _, _, _, _, rfl, F3, N3, m1, m2, m3, rfl, b0, ?_, ?_, b3, ?_, rfl⟩
    all_goals (have hm := hmid (by assumption))
    · omega
    · omega
    · omega
    · intro k hk hk2
      have hx : ¬ ns.getD (Int.fdiv (lo + hi') 2).toNat 0 ≤ x := by assumption
      rcases Nat.lt_or_ge (Int.fdiv (lo + hi') 2).toNat k with h1 | h1
      · have := sorted_getD_lt hs h1 hk2; omega
      · have : k = (Int.fdiv (lo + hi') 2).toNat := by omega
        rw [this]; omega
  · have hlh : lo = hi' := by omega
    subst hlh
    rw [← cnt_of b0 b2 b3 b4]
    exact ret _ _ _ (fun c o hc hne => F2.keep c o (hkg c o hc hne))
end
end

section
abbrev deckKvs (C : Addr) (k : Int) (t3 : Tok) : List (Str × Value) :=
  [(Str.ofString "cells", .ref C), (Str.ofString "at", .int k t3)]

section
variable {w : World} {mg mb : Str → Option Value} {mean : ExcName → Option Value} {loose : List Str} {h₀ : Heap} {dp un : Nat} {fr : Option (List Env)} {gd : Option (List Code)} {s : Shared} {Q : Value → Shared → Prop} {E : Value → Shared → Prop}

theorem draw_ok {D C : Addr} {t3 tb : Tok} {k b : Int} {vs : List Value} {ns : List Int}
    (kp : ∀ b o, h₀.get? b = some o → s.heap.get? b = some o) (X : (hd.heap_1 w.params).In h₀) (T : Top hVw loose mean mg mb h₀) (hdp : dp ≤ 900) (hun : un ≤ 9000)
    (hD : s.heap.DictOf (PySem.strKind PR w) D (deckKvs C k t3)) (hD0 : h₀.get? D = none)
    (hC : s.heap.IsList C vs.toArray) (hi : IntsAre vs ns) (hns : ∀ n ∈ ns, 0 ≤ n ∧ n < 1000000007) (hln : ns.length ≤ 63) (hk : 0 ≤ k) (hk2 : k < 1000) (hb2 : b < 1000) (hb : 0 < b)
    (ret : ∀ v t t3' h' tk', 0 ≤ v → v < b → KeepBut [D] s.heap h' → h'.DictOf (PySem.strKind PR w) D (deckKvs C (k+1) t3') → Q (.int v t) { s with heap := h', toks := tk' }) :
    wpAny (model PR w) (AX dp un fr gd) (call (.ref 201) [.ref D, .int b tb]) Q E s := by
  obtain ⟨oD, hoD, hdD⟩ := Heap.dictOf_iff.mp hD
  refine wpAny_call ?_
  refine' code_fn (news := [(D, oD)]) (binds := [(Str.ofString "deck", .ref D), (Str.ofString "below", .int b tb)]) ?k1 ?k2 ?k3 ?k4 ?k6 ?k7 ?k8 ?k9 ?kB ?_ ?c2 ?c3 ?c4 ?c5
  case k1 => exact kp
  case k2 => exact X
  case k3 => exact T
  case k4 => (intro q hq; (obtain rfl := List.mem_singleton.mp hq; exact ⟨hoD, hD0⟩))
  case k6 => k_is
  case k7 => k_is
  case k8 => (simp only [recursionLimit] at *; omega)
  case k9 => first | exact BindsTo.of_eq rfl | exact binds_K (X.keeps kp) rfl (by k_is) rfl rfl rfl
  case kB => exact locs rfl
  case c2 => exact rfl
  case c3 => exact rfl
  case c4 => exact rfl
  case c5 => decide
  intro g L' h₁ hg hkg hgs F N X' T'
  dsimp only
  k_fold
  have hCg : g.IsList C vs.toArray := by
    obtain ⟨o, ho, r⟩ := hC
    refine ⟨o, hkg _ _ ho ?_, r⟩
    intro hm
    obtain rfl : C = D := by simpa using hm
    rw [hoD] at ho; cases ho
    obtain ⟨es, ep, h1, h2, _⟩ := hdD
    exact absurd (r.1.symm.trans h1.1) (by simp)
  have hlen := hi.length
  k_steps
  all_goals (try dsimp only)
  all_goals first
    | (with_reducible show DivisorWantsNonzero; exfalso; simp_all; done)
    | exact ret _ _ _ _ _ (Int.fmod_nonneg_of_pos _ hb) (Int.fmod_lt_of_pos _ hb) (fun c o hc hne => Fr.keep (by assumption) c o (hkg c o hc (by simpa using hne))) (Heap.dictOf_iff.mpr ⟨_, News.get (by assumption) (by k_mem), by assumption⟩)
end
end

section
/-- what a map's value is: None, a text, a tuple of texts -/
inductive AV where
  | none
  | str (s : Str)
  | tup (ss : List Str)
  deriving DecidableEq

def VIs (h : Heap) (v : Value) : AV → Prop
  | .none => v = .none
  | .str x => ∃ t, v = .str x t
  | .tup ss => ∃ a vs, v = .ref a ∧ IsTup h a (List.toArray vs) ∧ StrsAre vs ss
theorem VIs.keep {h h' : Heap} {v : Value} {a : AV} (x : VIs h v a) (k : ∀ b o, h.get? b = some o → h'.get? b = some o) : VIs h' v a := by
  cases a with
  | none => exact x
  | str _ => exact x
  | tup ss =>
    obtain ⟨a, vs, e, t, r⟩ := x
    exact ⟨a, vs, e, t.keeps k, r⟩
inductive VAre (h : Heap) : List Value → List AV → Prop
  | nil : VAre h [] []
  | cons {v : Value} {a : AV} {vs : List Value} {as : List AV} : VIs h v a → VAre h vs as → VAre h (v :: vs) (a :: as)
theorem VAre.keep {h h' : Heap} {vs : List Value} {as : List AV} (x : VAre h vs as) (k : ∀ b o, h.get? b = some o → h'.get? b = some o) : VAre h' vs as := by
  induction x with
  | nil => exact .nil
  | cons a _ ih => exact .cons (a.keep k) ih
theorem VAre.length {h : Heap} {vs : List Value} {as : List AV} (x : VAre h vs as) : vs.length = as.length := by
  induction x with
  | nil => rfl
  | cons _ _ ih => simp [ih]
theorem VAre.get {h : Heap} {vs : List Value} {as : List AV} (x : VAre h vs as) : ∀ {i : Nat} {a : AV}, as[i]? = some a → ∃ v, vs[i]? = some v ∧ VIs h v a := by
  induction x with
  | nil => intro i a e; simp at e
  | cons y _ ih =>
    intro i a e
    cases i with
    | zero => simp at e; subst e; exact ⟨_, rfl, y⟩
    | succ i => exact ih (by simpa using e)
theorem VAre.append {h : Heap} {vs ws : List Value} {as bs : List AV} (x : VAre h vs as) (y : VAre h ws bs) : VAre h (vs ++ ws) (as ++ bs) := by
  induction x with
  | nil => exact y
  | cons a _ ih => exact .cons a ih
theorem VAre.take {h : Heap} {vs : List Value} {as : List AV} (x : VAre h vs as) : ∀ n : Nat, VAre h (vs.take n) (as.take n) := by
  induction x with
  | nil => intro n; simp; exact .nil
  | cons a _ ih => intro n; cases n with
    | zero => exact .nil
    | succ n => exact .cons a (ih n)
theorem VAre.drop {h : Heap} {vs : List Value} {as : List AV} (x : VAre h vs as) : ∀ n : Nat, VAre h (vs.drop n) (as.drop n) := by
  induction x with
  | nil => intro n; simp; exact .nil
  | cons a b ih => intro n; cases n with
    | zero => exact .cons a b
    | succ n => exact ih n

abbrev rmEs (w : World) (t1 t2 t3 : Tok) (dv : Value) (S V : Addr) : List DictEntry :=
  [⟨PyData.keyHash w.params (Str.ofString "default"), .str (Str.ofString "default") t1, dv⟩, ⟨PyData.keyHash w.params (Str.ofString "starts"), .str (Str.ofString "starts") t2, .ref S⟩,
   ⟨PyData.keyHash w.params (Str.ofString "values"), .str (Str.ofString "values") t3, .ref V⟩]

/-- a value of the class RangeMap over these starts and values -/
structure RmAt (w : World) (h : Heap) (ra rd S V : Addr) (sv vv : List Value) (ns : List Int) (as : List AV) (t1 t2 t3 : Tok) (dv : Value) : Prop where
  inst : InstAt h ra (instObj 122 rd) 122 (some (dictOf (rmEs w t1 t2 t3 dv S V) 3))
  starts : h.IsList S sv.toArray
  num : IntsAre sv ns
  values : h.IsList V vv.toArray
  vals : VAre h vv as
  len : ns.length = as.length
theorem RmAt.keep {w : World} {h h' : Heap} {ra rd S V : Addr} {sv vv : List Value} {ns : List Int} {as : List AV} {t1 t2 t3 : Tok} {dv : Value} (R : RmAt w h ra rd S V sv vv ns as t1 t2 t3 dv)
    (k : ∀ b o, h.get? b = some o → h'.get? b = some o) : RmAt w h' ra rd S V sv vv ns as t1 t2 t3 dv where
  inst := ⟨k _ _ R.inst.at_, R.inst.cls, R.inst.no, k _ _ R.inst.dict⟩
  starts := R.starts.at fun o e => k _ o e
  num := R.num
  values := R.values.at fun o e => k _ o e
  vals := R.vals.keep k
  len := R.len

section
variable {w : World} {mg mb : Str → Option Value} {mean : ExcName → Option Value} {loose : List Str} {h₀ : Heap} {dp un : Nat} {fr : Option (List Env)} {gd : Option (List Code)} {s : Shared} {Q : Value → Shared → Prop} {E : Value → Shared → Prop}

theorem rm_get_ok {ra rd S V : Addr} {sv vv : List Value} {ns : List Int} {as : List AV} {t1 t2 t3 : Tok} {dv : Value} {x : Int} {tx : Tok}
    (kp : ∀ b o, h₀.get? b = some o → s.heap.get? b = some o) (X : (hd.heap_1 w.params).In h₀) (T : Top hVw loose mean mg mb h₀) (hdp : dp ≤ 890) (hun : un ≤ 8900)
    (R : RmAt w s.heap ra rd S V sv vv ns as t1 t2 t3 dv) (hln : ns.length ≤ 1000) (hs : ns.Pairwise (· < ·)) (hc : 0 < cntLe ns x) 
    (ret : ∀ v h' tk', KeepBut [] s.heap h' → vv[cntLe ns x - 1]? = some v → Q v { s with heap := h', toks := tk' }) :
    wpAny (model PR w) (AX dp un fr gd) (call (.ref 98) [.ref ra, .int x tx]) Q E s := by
  refine wpAny_call ?_
  refine' code_fn (news := []) (binds := [(Str.ofString "self", .ref ra), (Str.ofString "code", .int x tx)]) ?k1 ?k2 ?k3 ?k4 ?k6 ?k7 ?k8 ?k9 ?kB ?_ ?c2 ?c3 ?c4 ?c5
  case k1 => exact kp
  case k2 => exact X
  case k3 => exact T
  case k4 => (intro q hq; exact nomatch hq)
  case k6 => k_is
  case k7 => k_is
  case k8 => (simp only [recursionLimit] at *; omega)
  case k9 => first | exact BindsTo.of_eq rfl | exact binds_K (X.keeps kp) rfl (by k_is) rfl rfl rfl
  case kB => exact locs rfl
  case c2 => exact rfl
  case c3 => exact rfl
  case c4 => exact rfl
  case c5 => decide
  intro g L' h₁ hg hkg hgs F N X' T'
  dsimp only
  k_fold
  have kg : ∀ b o, s.heap.get? b = some o → g.get? b = some o := fun b o e => hkg b o e (fun h => nomatch h)
  have Rg := R.keep kg
  have Ig := Rg.inst
  have hlen := R.num.length
  k_steps
  show wpAny _ _ _ _ _ _
  rename Fr _ _ _ _ => F1
  rename News _ _ _ _ => N1
  refine place_ok F1.keep X' T' (by (try dsimp only); omega) (by (try dsimp only); omega) (Rg.starts.at fun o e => F1.keep _ o e) Rg.num hln hs fun t h' tk' hk => ?_
  have hle : cntLe ns x ≤ ns.length := List.length_filter_le _ _
  have hvl : cntLe ns x - 1 < vv.length := by have := R.vals.length; have := R.len; omega
  have hv : vv[cntLe ns x - 1]? = some vv[cntLe ns x - 1] := List.getElem?_eq_getElem hvl
  generalize vv[cntLe ns x - 1] = v at hv
  refine item_listV (v := v) (Rg.values.at fun o e => hk _ _ (F1.keep _ o e) (fun h => nomatch h)) (by omega) (by omega) ?_ ?_ (by with_unfolding_all rfl)
  · rw [← hv]; congr 1; omega
  · exact ret v h' tk' (fun b o e hb => hk _ _ (F1.keep _ _ (kg _ _ e)) hb) hv
end
end

section
abbrev dataEs (w : World) (t1 t2 t3 t4 : Tok) (DF MP PP WD : Addr) : List DictEntry :=
  [⟨PyData.keyHash w.params (Str.ofString "defaults"), .str (Str.ofString "defaults") t1, .ref DF⟩, ⟨PyData.keyHash w.params (Str.ofString "maps"), .str (Str.ofString "maps") t2, .ref MP⟩,
   ⟨PyData.keyHash w.params (Str.ofString "properties"), .str (Str.ofString "properties") t3, .ref PP⟩, ⟨PyData.keyHash w.params (Str.ofString "words"), .str (Str.ofString "words") t4, .ref WD⟩]

/-- a value of the class Data: its defaults and its maps -/
structure DataAt (w : World) (h : Heap) (da dd DF MP PP WD : Addr) (t1 t2 t3 t4 : Tok) (dk mk : List (Str × Value)) : Prop where
  inst : InstAt h da (instObj 171 dd) 171 (some (dictOf (dataEs w t1 t2 t3 t4 DF MP PP WD) 4))
  dfl : h.DictOf (PySem.strKind PR w) DF dk
  maps : h.DictOf (PySem.strKind PR w) MP mk
  ldf : (DF == sysModules) = false
  lmp : (MP == sysModules) = false
theorem DataAt.keep {w : World} {h h' : Heap} {da dd DF MP PP WD : Addr} {t1 t2 t3 t4 : Tok} {dk mk : List (Str × Value)} (R : DataAt w h da dd DF MP PP WD t1 t2 t3 t4 dk mk)
    (k : ∀ b o, h.get? b = some o → h'.get? b = some o) : DataAt w h' da dd DF MP PP WD t1 t2 t3 t4 dk mk where
  inst := ⟨k _ _ R.inst.at_, R.inst.cls, R.inst.no, k _ _ R.inst.dict⟩
  dfl := R.dfl.keep k
  maps := R.maps.keep k
  ldf := R.ldf
  lmp := R.lmp

section
variable {w : World} {mg mb : Str → Option Value} {mean : ExcName → Option Value} {loose : List Str} {h₀ : Heap} {dp un : Nat} {fr : Option (List Env)} {gd : Option (List Code)} {s : Shared} {Q : Value → Shared → Prop} {E : Value → Shared → Prop}

theorem data_get_map_ok {da dd DF MP PP WD : Addr} {u1 u2 u3 u4 : Tok} {dk mk : List (Str × Value)} {nm : Str} {tn : Tok}
    {ra rd S V : Addr} {sv vv : List Value} {ns : List Int} {as : List AV} {t1 t2 t3 : Tok} {dv : Value} {x : Int} {tx : Tok}
    (kp : ∀ b o, h₀.get? b = some o → s.heap.get? b = some o) (X : (hd.heap_1 w.params).In h₀) (T : Top hVw loose mean mg mb h₀) (hdp : dp ≤ 880) (hun : un ≤ 8800)
    (Dt : DataAt w s.heap da dd DF MP PP WD u1 u2 u3 u4 dk mk) (hm : valueAt mk nm = some (.ref ra))
    (R : RmAt w s.heap ra rd S V sv vv ns as t1 t2 t3 dv) (hln : ns.length ≤ 1000) (hs : ns.Pairwise (· < ·)) (hc : 0 < cntLe ns x) 
    (ret : ∀ v h' tk', KeepBut [] s.heap h' → vv[cntLe ns x - 1]? = some v → Q v { s with heap := h', toks := tk' }) :
    wpAny (model PR w) (AX dp un fr gd) (call (.ref 161) [.ref da, .str nm tn, .int x tx]) Q E s := by
  refine wpAny_call ?_
  refine' code_fn (news := []) (binds := [(Str.ofString "self", .ref da), (Str.ofString "name", .str nm tn), (Str.ofString "code", .int x tx)]) ?k1 ?k2 ?k3 ?k4 ?k6 ?k7 ?k8 ?k9 ?kB ?_ ?c2 ?c3 ?c4 ?c5
  case k1 => exact kp
  case k2 => exact X
  case k3 => exact T
  case k4 => (intro q hq; exact nomatch hq)
  case k6 => k_is
  case k7 => k_is
  case k8 => (simp only [recursionLimit] at *; omega)
  case k9 => first | exact BindsTo.of_eq rfl | exact binds_K (X.keeps kp) rfl (by k_is) rfl rfl rfl
  case kB => exact locs rfl
  case c2 => exact rfl
  case c3 => exact rfl
  case c4 => exact rfl
  case c5 => decide
  intro g L' h₁ hg hkg hgs F N X' T'
  dsimp only
  k_fold
  have kg : ∀ b o, s.heap.get? b = some o → g.get? b = some o := fun b o e => hkg b o e (fun h => nomatch h)
  have Rg := R.keep kg
  have Dg := Dt.keep kg
  have Ig := Rg.inst
  have Jg := Dg.inst
  k_steps
  rename Fr _ _ _ _ => F1
  rename News _ _ _ _ => N1
  refine in_dictO (Dg.maps.keep F1.keep) Dg.lmp (strKind_is PR w nm tn) ?_
  rw [show (valueAt mk nm).isSome = true by rw [hm]; rfl]
  k_steps
  refine item_dictO (Dg.maps.keep F1.keep) (strKind_is PR w nm tn) hm ?_ (by with_unfolding_all rfl)
  k_steps
  show wpAny _ _ _ _ _ _
  refine rm_get_ok F1.keep X' T' (by (try dsimp only); omega) (by (try dsimp only); omega) (Rg.keep F1.keep) hln hs hc fun v h' tk' hk hV => ?_
  exact ret v h' tk' (fun b o e hb => hk _ _ (F1.keep _ _ (kg _ _ e)) hb) hV

theorem data_get_dfl_ok {da dd DF MP PP WD : Addr} {u1 u2 u3 u4 : Tok} {dk mk : List (Str × Value)} {nm : Str} {tn : Tok} {x : Int} {tx : Tok}
    (kp : ∀ b o, h₀.get? b = some o → s.heap.get? b = some o) (X : (hd.heap_1 w.params).In h₀) (T : Top hVw loose mean mg mb h₀) (hdp : dp ≤ 880) (hun : un ≤ 8800)
    (Dt : DataAt w s.heap da dd DF MP PP WD u1 u2 u3 u4 dk mk) (hm : valueAt mk nm = none)
    (ret : ∀ h' tk', KeepBut [] s.heap h' → Q ((valueAt dk nm).getD .none) { s with heap := h', toks := tk' }) :
    wpAny (model PR w) (AX dp un fr gd) (call (.ref 161) [.ref da, .str nm tn, .int x tx]) Q E s := by
  refine wpAny_call ?_
  refine' code_fn (news := []) (binds := [(Str.ofString "self", .ref da), (Str.ofString "name", .str nm tn), (Str.ofString "code", .int x tx)]) ?k1 ?k2 ?k3 ?k4 ?k6 ?k7 ?k8 ?k9 ?kB ?_ ?c2 ?c3 ?c4 ?c5
  case k1 => exact kp
  case k2 => exact X
  case k3 => exact T
  case k4 => (intro q hq; exact nomatch hq)
  case k6 => k_is
  case k7 => k_is
  case k8 => (simp only [recursionLimit] at *; omega)
  case k9 => first | exact BindsTo.of_eq rfl | exact binds_K (X.keeps kp) rfl (by k_is) rfl rfl rfl
  case kB => exact locs rfl
  case c2 => exact rfl
  case c3 => exact rfl
  case c4 => exact rfl
  case c5 => decide
  intro g L' h₁ hg hkg hgs F N X' T'
  dsimp only
  k_fold
  have kg : ∀ b o, s.heap.get? b = some o → g.get? b = some o := fun b o e => hkg b o e (fun h => nomatch h)
  have Dg := Dt.keep kg
  have Jg := Dg.inst
  k_steps
  rename Fr _ _ _ _ => F1
  rename News _ _ _ _ => N1
  refine in_dictO (Dg.maps.keep F1.keep) Dg.lmp (strKind_is PR w nm tn) ?_
  rw [show (valueAt mk nm).isSome = false by rw [hm]; rfl]
  k_steps
  refine getm_dictO (Dg.dfl.keep F1.keep) ?_
  k_steps
  refine get1_dictO (Dg.dfl.keep F1.keep) Dg.ldf (strKind_is PR w nm tn) ?_
  exact ret _ _ (fun b o e hb => F1.keep _ _ (kg _ _ e))
end
end

section
section
variable {prog : Program} {w : World} {A : Around} {E : Value → Shared → Prop} {s : Shared} {h₀ : Heap} {L : Addr} {m : Str → Option Value} {news : List (Addr × Obj)}
abbrev tupOf (its : Array Value) : Obj := { cls := .type "tuple", data := .seq its }

theorem sorted_strK {l : Addr} {vs : List Value} {ss : List Str} {Q : Value → Shared → Prop}
    (F : Fr h₀ L s.heap m) (N : News h₀ L s.heap news) (hl : s.heap.IsList l vs.toArray) (hS : StrsAre vs ss) (h64 : vs.length < 64)
    (h : ∀ (D : Addr) (h' : Heap) (vs' : List Value) (ss' : List Str) (e : Nat), Fr h₀ L h' m → News h₀ L h' ((D, listOf vs'.toArray e) :: news) → (∀ p ∈ news, p.1 < D) →
      StrsAre vs' ss' → ss'.Perm ss → sortedS ss' = true → Q (.ref D) { s with heap := h' }) :
    wpAny (model prog w) A (call (.builtin "sorted") [.ref l]) Q E s :=
  sorted_N_str F N hl hS h64 fun h' vs' ss' e F' N' a b c => h _ h' vs' ss' e F' N' (fun p hp => Nat.lt_succ_of_lt (Heap.lt_size (N p hp).1)) a b c

theorem tuple_listK {l : Addr} {vs : List Value} {Q : Value → Shared → Prop} (F : Fr h₀ L s.heap m) (N : News h₀ L s.heap news) (hl : s.heap.IsList l vs.toArray) (hz : vs.length ≤ 16384)
    (h : ∀ D h', Fr h₀ L h' m → News h₀ L h' ((D, tupOf vs.toArray) :: news) → (∀ p ∈ news, p.1 < D) → Q (.ref D) { s with heap := h' }) : wpAny (model prog w) A (call (.type "tuple") [.ref l]) Q E s := by
  refine call_tuple_list hl (fun h' hk => ?_) (by rw [sizeLine_eq, List.size_toArray]; omega)
  have F' : Fr h₀ L h' m := F.keeps hk
  have N' : News h₀ L h' news := fun p hp => ⟨hk _ _ (N p hp).1, (N p hp).2⟩
  exact h _ _ (F'.push _) (N'.push F' _) fun p hp => Heap.lt_size (N' p hp).1

theorem list_tupleK {l : Addr} {vs : List Value} {Q : Value → Shared → Prop} (F : Fr h₀ L s.heap m) (N : News h₀ L s.heap news) (hl : IsTup s.heap l vs.toArray) (hz : vs.length ≤ 16384)
    (h : ∀ D c h', Fr h₀ L h' m → News h₀ L h' ((D, listOf vs.toArray c) :: news) → (∀ q ∈ news, q.1 < D) → Q (.ref D) { s with heap := h' }) : wpAny (model prog w) A (call (.type "list") [.ref l]) Q E s :=
  list_copyKT F N hl h (by rw [sizeLine_eq, List.size_toArray]; omega)
theorem list_listK {l : Addr} {vs : List Value} {Q : Value → Shared → Prop} (F : Fr h₀ L s.heap m) (N : News h₀ L s.heap news) (hl : s.heap.IsList l vs.toArray) (hz : vs.length ≤ 16384)
    (h : ∀ D c h', Fr h₀ L h' m → News h₀ L h' ((D, listOf vs.toArray c) :: news) → (∀ q ∈ news, q.1 < D) → Q (.ref D) { s with heap := h' }) : wpAny (model prog w) A (call (.type "list") [.ref l]) Q E s :=
  list_copyK F N hl h (by rw [sizeLine_eq, List.size_toArray]; omega)

theorem any_mem (k : Str) (ys : List Str) : ys.any (· == k) = decide (k ∈ ys) := by
  rw [Bool.eq_iff_iff]
  simp only [List.any_eq_true, beq_iff_eq, decide_eq_true_eq]
  exact ⟨fun ⟨x, h, e⟩ => e ▸ h, fun h => ⟨k, h, rfl⟩⟩
theorem in_tup_mem {l : Addr} {vs : List Value} {ys : List Str} {k : Str} {t : Tok} {Q : Value → Shared → Prop} (hl : IsTup s.heap l vs.toArray) (hi : StrsAre vs ys)
    (h : Q (.bool (decide (k ∈ ys))) s) : wpAny (model prog w) A (compareOp .In (.str k t) (.ref l)) Q E s :=
  SeqAt.in_tupleAt (isStrOf k) hl (fun y hy => (eq_isStrOf k t hi y (by simpa using hy)).at _ _) (by rw [← Array.any_toList, show vs.toArray.toList = vs from rfl, any_isStrOf k hi, any_mem]; exact h)
theorem notin_tup_mem {l : Addr} {vs : List Value} {ys : List Str} {k : Str} {t : Tok} {Q : Value → Shared → Prop} (hl : IsTup s.heap l vs.toArray) (hi : StrsAre vs ys)
    (h : Q (.bool (!decide (k ∈ ys))) s) : wpAny (model prog w) A (compareOp .NotIn (.str k t) (.ref l)) Q E s :=
  SeqAt.notIn_tupleAt (isStrOf k) hl (fun y hy => (eq_isStrOf k t hi y (by simpa using hy)).at _ _) (by rw [← Array.any_toList, show vs.toArray.toList = vs from rfl, any_isStrOf k hi, any_mem]; exact h)
theorem in_list_mem {l : Addr} {vs : List Value} {ys : List Str} {k : Str} {t : Tok} {Q : Value → Shared → Prop} (hl : s.heap.IsList l vs.toArray) (hi : StrsAre vs ys)
    (h : Q (.bool (decide (k ∈ ys))) s) : wpAny (model prog w) A (compareOp .In (.str k t) (.ref l)) Q E s := in_list_strs hl hi (by rw [any_mem]; exact h)
theorem notin_list_mem {l : Addr} {vs : List Value} {ys : List Str} {k : Str} {t : Tok} {Q : Value → Shared → Prop} (hl : s.heap.IsList l vs.toArray) (hi : StrsAre vs ys)
    (h : Q (.bool (!decide (k ∈ ys))) s) : wpAny (model prog w) A (compareOp .NotIn (.str k t) (.ref l)) Q E s := notin_list_strs hl hi (by rw [any_mem]; exact h)
end

theorem StrsAre.get {vs : List Value} {ss : List Str} (h : StrsAre vs ss) {i : Nat} {v : Value} (e : vs[i]? = some v) : ∃ y t, v = .str y t ∧ ss[i]? = some y := StrsAre.item h i v e

/-- starts rising from 0 -/
structure Good (p : List (Int × AV)) : Prop where
  srt : (p.map (·.1)).Pairwise (· < ·)
  first : ∃ a t, p = (0, a) :: t
  len : p.length ≤ 1000
def den (p : List (Int × AV)) (x : Int) : AV := ((p.map (·.2))[cntLe (p.map (·.1)) x - 1]?).getD .none
theorem Good.pos {p : List (Int × AV)} (g : Good p) {x : Int} (hx : 0 ≤ x) : 0 < cntLe (p.map (·.1)) x := by
  obtain ⟨a, t, rfl⟩ := g.first
  unfold cntLe
  simp [hx]
theorem den_is {h : Heap} {vv : List Value} {p : List (Int × AV)} {x : Int} {v : Value} (g : Good p) (hx : 0 ≤ x) (hv : VAre h vv (p.map (·.2))) (e : vv[cntLe (p.map (·.1)) x - 1]? = some v) : VIs h v (den p x) := by
  have h1 := g.pos hx
  have h2 : cntLe (p.map (·.1)) x ≤ (p.map (·.1)).length := List.length_filter_le _ _
  have h3 : cntLe (p.map (·.1)) x - 1 < (p.map (·.2)).length := by simp at h2 ⊢; omega
  obtain ⟨v', e', r⟩ := hv.get (List.getElem?_eq_getElem h3)
  have : v' = v := by rw [e] at e'; exact (Option.some.inj e').symm
  subst this
  unfold den
  rw [List.getElem?_eq_getElem h3]
  exact r

/-- a value of the class RangeMap that says p -/
def RmRep (w : World) (h : Heap) (ra : Addr) (p : List (Int × AV)) : Prop :=
  ∃ rd S V sv vv t1 t2 t3 dv, RmAt w h ra rd S V sv vv (p.map (·.1)) (p.map (·.2)) t1 t2 t3 dv
theorem RmRep.keep {w : World} {h h' : Heap} {ra : Addr} {p : List (Int × AV)} (R : RmRep w h ra p) (k : ∀ b o, h.get? b = some o → h'.get? b = some o) : RmRep w h' ra p := by
  obtain ⟨rd, S, V, sv, vv, t1, t2, t3, dv, R⟩ := R
  exact ⟨rd, S, V, sv, vv, t1, t2, t3, dv, R.keep k⟩

/-- a value of the class Data whose scripts are p and whose further scripts are q -/
def DataRep (w : World) (h : Heap) (da : Addr) (p q : List (Int × AV)) : Prop :=
  ∃ dd DF MP PP WD u1 u2 u3 u4 dk mk r1, DataAt w h da dd DF MP PP WD u1 u2 u3 u4 dk mk ∧ valueAt mk (Str.ofString "sc") = some (.ref r1) ∧ RmRep w h r1 p ∧ Good p ∧ Good q ∧
    ((valueAt mk (Str.ofString "scx") = none ∧ valueAt dk (Str.ofString "scx") = some .none ∧ q = [(0, .none)]) ∨ ∃ r2, valueAt mk (Str.ofString "scx") = some (.ref r2) ∧ RmRep w h r2 q)
theorem DataRep.keep {w : World} {h h' : Heap} {da : Addr} {p q : List (Int × AV)} (R : DataRep w h da p q) (k : ∀ b o, h.get? b = some o → h'.get? b = some o) : DataRep w h' da p q := by
  obtain ⟨dd, DF, MP, PP, WD, u1, u2, u3, u4, dk, mk, r1, a, b, c, d, e, f⟩ := R
  refine ⟨dd, DF, MP, PP, WD, u1, u2, u3, u4, dk, mk, r1, a.keep k, b, c.keep k, d, e, ?_⟩
  rcases f with f | ⟨r2, f1, f2⟩
  · exact .inl f
  · exact .inr ⟨r2, f1, f2.keep k⟩

section
variable {w : World} {mg mb : Str → Option Value} {mean : ExcName → Option Value} {loose : List Str} {h₀ : Heap} {dp un : Nat} {fr : Option (List Env)} {gd : Option (List Code)} {s : Shared} {Q : Value → Shared → Prop} {E : Value → Shared → Prop}
theorem data_get_sc_ok {da : Addr} {p q : List (Int × AV)} {tn : Tok} {x : Int} {tx : Tok}
    (kp : ∀ b o, h₀.get? b = some o → s.heap.get? b = some o) (X : (hd.heap_1 w.params).In h₀) (T : Top hVw loose mean mg mb h₀) (hdp : dp ≤ 870) (hun : un ≤ 8700)
    (Dt : DataRep w h₀ da p q) (hx : 0 ≤ x)
    (ret : ∀ v h' tk', KeepBut [] s.heap h' → VIs h₀ v (den p x) → Q v { s with heap := h', toks := tk' }) :
    wpAny (model PR w) (AX dp un fr gd) (call (.ref 161) [.ref da, .str (Str.ofString "sc") tn, .int x tx]) Q E s := by
  obtain ⟨dd, DF, MP, PP, WD, u1, u2, u3, u4, dk, mk, r1, a, b, ⟨rd, S, V, sv, vv, t1, t2, t3, dv, R⟩, d, e, f⟩ := Dt
  exact data_get_map_ok kp X T (by omega) (by omega) (a.keep kp) b (R.keep kp) (by have := d.len; simpa using this) d.srt (d.pos hx) fun v h' tk' hk hv => ret v h' tk' hk (den_is d hx R.vals hv)
theorem data_get_scx_ok {da : Addr} {p q : List (Int × AV)} {tn : Tok} {x : Int} {tx : Tok}
    (kp : ∀ b o, h₀.get? b = some o → s.heap.get? b = some o) (X : (hd.heap_1 w.params).In h₀) (T : Top hVw loose mean mg mb h₀) (hdp : dp ≤ 870) (hun : un ≤ 8700)
    (Dt : DataRep w h₀ da p q) (hx : 0 ≤ x)
    (ret : ∀ v h' tk', KeepBut [] s.heap h' → VIs h₀ v (den q x) → Q v { s with heap := h', toks := tk' }) :
    wpAny (model PR w) (AX dp un fr gd) (call (.ref 161) [.ref da, .str (Str.ofString "scx") tn, .int x tx]) Q E s := by
  obtain ⟨dd, DF, MP, PP, WD, u1, u2, u3, u4, dk, mk, r1, a, b, c, d, e, f⟩ := Dt
  rcases f with ⟨f1, f2, rfl⟩ | ⟨r2, f1, rd, S, V, sv, vv, t1, t2, t3, dv, R⟩
  · refine data_get_dfl_ok kp X T (by omega) (by omega) (a.keep kp) f1 fun h' tk' hk => ?_
    rw [f2]
    refine ret _ h' tk' hk ?_
    have : den [(0, AV.none)] x = AV.none := by unfold den cntLe; simp [hx]
    rw [this]; rfl
  · exact data_get_map_ok kp X T (by omega) (by omega) (a.keep kp) f1 (R.keep kp) (by have := e.len; simpa using this) e.srt (e.pos hx) fun v h' tk' hk hv => ret v h' tk' hk (den_is e hx R.vals hv)
end

/-- no sign's scripts: goes with all -/
def isCommon (x : Str) : Bool := x == Str.ofString "Zyyy" || (x == Str.ofString "Zinh" || x == Str.ofString "Qaai")
/-- sorted, each once -/
def Canon (l : List Str) : Prop := sortedS l = true ∧ l.Nodup
end

section
section
variable {w : World} {mg mb : Str → Option Value} {mean : ExcName → Option Value} {loose : List Str} {h₀ : Heap} {dp un : Nat} {fr : Option (List Env)} {gd : Option (List Code)} {s : Shared} {Q : Value → Shared → Prop} {E : Value → Shared → Prop}

theorem script_set_ok {da : Addr} {p q : List (Int × AV)} {x : Int} {tx : Tok} {name : Str} {some' nm : List Str}
    (kp : ∀ b o, h₀.get? b = some o → s.heap.get? b = some o) (X : (hd.heap_1 w.params).In h₀) (T : Top hVw loose mean mg mb h₀) (hdp : dp ≤ 860) (hun : un ≤ 8600)
    (Dt : DataRep w h₀ da p q) (hx : 0 ≤ x) (hn : den p x = .str name) (hso : den q x = if some' = [] then .none else .tup some') (hl : some'.length ≤ 20) (hnm : nm = if some' = [] then [name] else some')
    (retN : ∀ h' tk', (∃ y ∈ nm, isCommon y = true) → KeepBut [] s.heap h' → Q .none { s with heap := h', toks := tk' })
    (retT : ∀ a out ss h' tk', (∀ y ∈ nm, isCommon y = false) → KeepBut [] s.heap h' → s.heap.get? a = none → h'.get? a = some (tupOf (List.toArray out)) → StrsAre out ss → Canon ss → (∀ y, y ∈ ss ↔ y ∈ nm) → ss.length ≤ 20 →
      Q (.ref a) { s with heap := h', toks := tk' }) :
    wpAny (model PR w) (AX dp un fr gd) (call (.ref 29) [.int x tx, .ref da]) Q E s := by
  refine wpAny_call ?_
  refine' code_fn (news := []) (binds := [(Str.ofString "code", .int x tx), (Str.ofString "data", .ref da)]) ?k1 ?k2 ?k3 ?k4 ?k6 ?k7 ?k8 ?k9 ?kB ?_ ?c2 ?c3 ?c4 ?c5
  case k1 => exact kp
  case k2 => exact X
  case k3 => exact T
  case k4 => (intro q hq; exact nomatch hq)
  case k6 => k_is
  case k7 => k_is
  case k8 => (simp only [recursionLimit] at *; omega)
  case k9 => first | exact BindsTo.of_eq rfl | exact binds_K (X.keeps kp) rfl (by k_is) rfl rfl rfl
  case kB => exact locs rfl
  case c2 => exact rfl
  case c3 => exact rfl
  case c4 => exact rfl
  case c5 => decide
  intro g L' h₁ hg hkg hgs F N X' T'
  dsimp only
  k_fold
  have kg : ∀ b o, s.heap.get? b = some o → g.get? b = some o := fun b o e => hkg b o e (fun h => nomatch h)
  have Dg := Dt.keep hg
  have ⟨dd, DF, MP, PP, WD, u1, u2, u3, u4, dk, mk, r1, Da, _⟩ := Dg
  have Jg := Da.inst
  k_steps
  show wpAny _ _ _ _ _ _
  rename Fr _ _ _ _ => F1
  rename News _ _ _ _ => N1
  refine data_get_scx_ok F1.keep X' T' (by (try dsimp only); omega) (by (try dsimp only); omega) Dg hx fun v h' tk' hk hV => ?_
  have F2 := Fr.behind0 F1 hk
  have N2 := News.behind0 N1 hk
  clear hk F1 N1
  rw [hso] at hV
  by_cases hs0 : some' = []
  · rw [if_pos hs0] at hV
    obtain rfl : v = .none := hV
    k_steps
    show wpAny _ _ _ _ _ _
    rename Fr _ _ _ _ => F1
    rename News _ _ _ _ => N1
    refine data_get_sc_ok F1.keep X' T' (by (try dsimp only); omega) (by (try dsimp only); omega) Dg hx fun v h' tk' hk hV => ?_
    have F2 := Fr.behind0 F1 hk
    have N2 := News.behind0 N1 hk
    clear hk F1 N1
    rw [hn] at hV
    obtain ⟨tv, rfl⟩ : ∃ t, v = .str name t := hV
    k_steps
    have hS : StrsAre [Value.str name tv] nm := by rw [hnm, if_pos hs0]; exact .cons _ _ .nil
    show wpAny _ _ _ _ _ _
    rename Fr _ _ _ _ => F1
    rename News _ _ _ _ => N1
    refine wpAny_For (ld F1 rfl ?_)
    refine for_tup (items := List.toArray [Value.str name tv]) (fun ax i m news => ∃ FD ys fs c ext, news = (FD, listOf (List.toArray ys) c) :: ext ∧ m (Str.ofString "found") = some (.ref FD) ∧ (∀ p ∈ ext, p.1 ≠ FD) ∧ (∀ h m, Fr g L' h m → News g L' h ext → IsTup h ax (List.toArray [Value.str name tv])) ∧
      StrsAre ys fs ∧ fs.Nodup ∧ (∀ y, y ∈ fs ↔ y ∈ nm.take i) ∧ ys.length ≤ i ∧ (∀ y ∈ nm.take i, isCommon y = false)) rfl F1 N1 ?_ ?_ ?_ ?_
    · refine ⟨_, [], [], _, _, rfl, rfl, ?_, ?_, .nil, List.nodup_nil, by simp, Nat.le_refl _, by simp⟩
      · (intro p hp; obtain rfl := List.mem_singleton.mp hp; refine neN ?_; dsimp only; omega)
      · exact fun h m F N => ⟨_, (N _ (.head _)).1, rfl, _, rfl⟩
    · rintro i m news h ⟨FD, ys, fs, c, ext, rfl, hfd, hext, hHax, r⟩ F N
      exact hHax h m F fun p hp => N p (.tail _ hp)
    · rintro I i v it m₁ news₁ h tk hi hv hOb ⟨FD, ys, fs, c, ext, rfl, hfd, hext, hHax, hSf, hnd, hmem, hlen, hcom⟩ - hnI hlt F2 N2
      clear F1 N1
      obtain ⟨y, t, rfl, hy⟩ := StrsAre.get hS (by simpa using hv)
      have hIF : FD ≠ I := hnI _ (.head _)
      have hil : i < nm.length := (List.getElem?_eq_some_iff.mp hy).1
      have hnl : nm.length ≤ 20 := by rw [hnm]; split <;> simp_all
      refine wpAny_assign_Name (stN F2 N2 (fun h' F3 N3 => ?_) rfl rfl)
      clear F2 N2
      k_steps
      · (try dsimp only)
        have hy' : isCommon y = true := by
          have : (y == Str.ofString "Zyyy") = true := by assumption
          unfold isCommon; rw [this]; rfl
        exact retN _ _ ⟨y, List.mem_of_getElem? hy, hy'⟩ (fun b o e _ => Fr.keep (by assumption) _ _ (kg _ _ e))
      · show wpAny _ _ _ _ _ _
        refine in_tup_mem (ys := [Str.ofString "Zinh", Str.ofString "Qaai"]) (Fr.tup F3 (tupK X' (by k_is))) (.cons _ _ (.cons _ _ .nil)) ?_
        by_cases hz : y ∈ [Str.ofString "Zinh", Str.ofString "Qaai"]
        · rw [decide_eq_true hz]
          k_steps
          (try dsimp only)
          have hy' : isCommon y = true := by
            unfold isCommon
            simp only [List.mem_cons, List.not_mem_nil, or_false] at hz
            rcases hz with h | h <;> simp [h]
          exact retN _ _ ⟨y, List.mem_of_getElem? hy, hy'⟩ (fun b o e _ => Fr.keep (by assumption) _ _ (kg _ _ e))
        · rw [decide_eq_false hz]
          k_steps
          have hy' : isCommon y = false := by
            have h1 : (y == Str.ofString "Zyyy") = false := by assumption
            unfold isCommon
            simp only [List.mem_cons, List.not_mem_nil, or_false, not_or] at hz
            simp only [Bool.or_eq_false_iff, beq_eq_false_iff_ne, ne_eq] at h1 ⊢
            exact ⟨h1, hz⟩
          have hcom' : ∀ z ∈ nm.take (i + 1), isCommon z = false := by
            intro z hz
            rw [List.take_add_one, hy] at hz
            rcases List.mem_append.mp hz with hz | hz
            · exact hcom z hz
            · obtain rfl : z = y := by simpa using hz
              exact hy'
          have hmem' : ∀ z, z ∈ nm.take (i + 1) ↔ z ∈ nm.take i ∨ z = y := by
            intro z
            rw [List.take_add_one, hy]
            simp
          show wpAny _ _ _ _ _ _
          refine notin_list_mem (vs := ys) (ys := fs) ⟨_, (N3 _ (.tail _ (.head _))).1, rfl, _, rfl⟩ hSf ?_
          by_cases hyf : y ∈ fs
          · rw [decide_eq_true hyf, Bool.not_true]
            k_steps
            rename Fr _ _ _ _ => F4
            rename News _ _ _ _ => N4
            refine TurnK.intro F4 N4 (fun p hp => hp) hnI ⟨FD, ys, fs, _, ext, rfl, hfd, hext, hHax, hSf, hnd, ?_, by omega, hcom'⟩
            intro z
            rw [hmem', hmem]
            exact ⟨fun h => .inl h, fun h => h.elim id (fun e => by rw [e]; exact (hmem y).mp hyf)⟩
          · rw [decide_eq_false hyf, Bool.not_false]
            k_steps
            show wpAny _ _ _ _ _ _
            rename Fr _ _ _ _ => F4
            rename News _ _ _ _ => N4
            refine append_K F4 N4 (.tail (fun e => hIF e.symm) (.head hext)) (fun h' F5 N5 => ?_) (by rw [sizeLine_eq]; simp; omega)
            k_steps
            refine TurnK.intro F5 N5 (fun p hp => hp) (by
              rintro p (_ | ⟨_, hp⟩)
              · exact hIF
              · exact hnI p (.tail _ hp)) ⟨FD, ys ++ [.str y t], fs ++ [y], c + 1, ext, by simp, hfd, hext, hHax, hSf.append' (.cons _ _ .nil), ?_, ?_, by simp; omega, hcom'⟩
            · rw [List.nodup_append]
              exact ⟨hnd, by simp, by rintro a ha b hb rfl; obtain rfl : a = y := (by simpa using hb); exact hyf ha⟩
            · intro z
              rw [hmem', List.mem_append, hmem]
              simp
    · rintro m₁ news₁ h tk ⟨FD, ys, fs, c, ext, rfl, hfd, hext, hHax, hSf, hnd, hmem, hlen, hcom⟩ F2 N2
      clear F1 N1
      have hsz : (List.toArray [Value.str name tv]).size = nm.length := by simpa using hS.length
      have hnl : nm.length ≤ 20 := by rw [hnm]; split <;> simp_all
      rw [hsz, List.take_length] at hmem hcom
      rw [hsz] at hlen
      k_steps
      show wpAny _ _ _ _ _ _
      refine sorted_strK F2 N2 (vs := ys) ⟨_, (N2 _ (.head _)).1, rfl, _, rfl⟩ hSf (by omega) (fun D h' vs' ss' e F3 N3 l1 hS' hp hs' => ?_)
      k_steps
      show wpAny _ _ _ _ _ _
      have hl' : vs'.length ≤ 20 := by have := hS'.length; have := hp.length_eq; have := hSf.length; omega
      refine tuple_listK F3 N3 (vs := vs') ⟨_, (N3 _ (.head _)).1, rfl, _, rfl⟩ (by omega) (fun D' h' F4 N4 l2 => ?_)
      k_steps
      (try dsimp only)
      refine retT D' vs' ss' _ _ hcom (fun b o e _ => F4.keep _ _ (kg _ _ e)) ?_ (N4 _ (.head _)).1 hS' ⟨hs', hp.nodup_iff.mpr hnd⟩ (fun y => (hp.mem_iff).trans (hmem y)) (by have := hS'.length; omega)
      cases q : s.heap.get? D' with
      | none => rfl
      | some o => exact absurd ((N4 _ (.head _)).2.2.symm.trans (kg _ _ q)) (by simp)

  · rw [if_neg hs0] at hV
    obtain ⟨av, vs, rfl, hT, hS⟩ : ∃ a vs, v = .ref a ∧ IsTup g a (List.toArray vs) ∧ StrsAre vs some' := hV
    k_steps
    have hS : StrsAre vs nm := by rw [hnm, if_neg hs0]; exact hS
    show wpAny _ _ _ _ _ _
    rename Fr _ _ _ _ => F1
    rename News _ _ _ _ => N1
    refine wpAny_For (ld F1 rfl ?_)
    refine for_tup (items := List.toArray vs) (fun ax i m news => ∃ FD ys fs c ext, news = (FD, listOf (List.toArray ys) c) :: ext ∧ m (Str.ofString "found") = some (.ref FD) ∧ (∀ p ∈ ext, p.1 ≠ FD) ∧ (∀ h m, Fr g L' h m → News g L' h ext → IsTup h ax (List.toArray vs)) ∧
      StrsAre ys fs ∧ fs.Nodup ∧ (∀ y, y ∈ fs ↔ y ∈ nm.take i) ∧ ys.length ≤ i ∧ (∀ y ∈ nm.take i, isCommon y = false)) rfl F1 N1 ?_ ?_ ?_ ?_
    · refine ⟨_, [], [], _, _, rfl, rfl, ?_, ?_, .nil, List.nodup_nil, by simp, Nat.le_refl _, by simp⟩
      · exact fun p hp => nomatch hp
      · exact fun h m F N => hT.keeps F.keep
    · rintro i m news h ⟨FD, ys, fs, c, ext, rfl, hfd, hext, hHax, r⟩ F N
      exact hHax h m F fun p hp => N p (.tail _ hp)
    · rintro I i v it m₁ news₁ h tk hi hv hOb ⟨FD, ys, fs, c, ext, rfl, hfd, hext, hHax, hSf, hnd, hmem, hlen, hcom⟩ - hnI hlt F2 N2
      clear F1 N1
      obtain ⟨y, t, rfl, hy⟩ := StrsAre.get hS (by simpa using hv)
      have hIF : FD ≠ I := hnI _ (.head _)
      have hil : i < nm.length := (List.getElem?_eq_some_iff.mp hy).1
      have hnl : nm.length ≤ 20 := by rw [hnm]; split <;> simp_all
      refine wpAny_assign_Name (stN F2 N2 (fun h' F3 N3 => ?_) rfl rfl)
      clear F2 N2
      k_steps
      · (try dsimp only)
        have hy' : isCommon y = true := by
          have : (y == Str.ofString "Zyyy") = true := by assumption
          unfold isCommon; rw [this]; rfl
        exact retN _ _ ⟨y, List.mem_of_getElem? hy, hy'⟩ (fun b o e _ => Fr.keep (by assumption) _ _ (kg _ _ e))
      · show wpAny _ _ _ _ _ _
        refine in_tup_mem (ys := [Str.ofString "Zinh", Str.ofString "Qaai"]) (Fr.tup F3 (tupK X' (by k_is))) (.cons _ _ (.cons _ _ .nil)) ?_
        by_cases hz : y ∈ [Str.ofString "Zinh", Str.ofString "Qaai"]
        · rw [decide_eq_true hz]
          k_steps
          (try dsimp only)
          have hy' : isCommon y = true := by
            unfold isCommon
            simp only [List.mem_cons, List.not_mem_nil, or_false] at hz
            rcases hz with h | h <;> simp [h]
          exact retN _ _ ⟨y, List.mem_of_getElem? hy, hy'⟩ (fun b o e _ => Fr.keep (by assumption) _ _ (kg _ _ e))
        · rw [decide_eq_false hz]
          k_steps
          have hy' : isCommon y = false := by
            have h1 : (y == Str.ofString "Zyyy") = false := by assumption
            unfold isCommon
            simp only [List.mem_cons, List.not_mem_nil, or_false, not_or] at hz
            simp only [Bool.or_eq_false_iff, beq_eq_false_iff_ne, ne_eq] at h1 ⊢
            exact ⟨h1, hz⟩
          have hcom' : ∀ z ∈ nm.take (i + 1), isCommon z = false := by
            intro z hz
            rw [List.take_add_one, hy] at hz
            rcases List.mem_append.mp hz with hz | hz
            · exact hcom z hz
            · obtain rfl : z = y := by simpa using hz
              exact hy'
          have hmem' : ∀ z, z ∈ nm.take (i + 1) ↔ z ∈ nm.take i ∨ z = y := by
            intro z
            rw [List.take_add_one, hy]
            simp
          show wpAny _ _ _ _ _ _
          refine notin_list_mem (vs := ys) (ys := fs) ⟨_, (N3 _ (.tail _ (.head _))).1, rfl, _, rfl⟩ hSf ?_
          by_cases hyf : y ∈ fs
          · rw [decide_eq_true hyf, Bool.not_true]
            k_steps
            rename Fr _ _ _ _ => F4
            rename News _ _ _ _ => N4
            refine TurnK.intro F4 N4 (fun p hp => hp) hnI ⟨FD, ys, fs, _, ext, rfl, hfd, hext, hHax, hSf, hnd, ?_, by omega, hcom'⟩
            intro z
            rw [hmem', hmem]
            exact ⟨fun h => .inl h, fun h => h.elim id (fun e => by rw [e]; exact (hmem y).mp hyf)⟩
          · rw [decide_eq_false hyf, Bool.not_false]
            k_steps
            show wpAny _ _ _ _ _ _
            rename Fr _ _ _ _ => F4
            rename News _ _ _ _ => N4
            refine append_K F4 N4 (.tail (fun e => hIF e.symm) (.head hext)) (fun h' F5 N5 => ?_) (by rw [sizeLine_eq]; simp; omega)
            k_steps
            refine TurnK.intro F5 N5 (fun p hp => hp) (by
              rintro p (_ | ⟨_, hp⟩)
              · exact hIF
              · exact hnI p (.tail _ hp)) ⟨FD, ys ++ [.str y t], fs ++ [y], c + 1, ext, by simp, hfd, hext, hHax, hSf.append' (.cons _ _ .nil), ?_, ?_, by simp; omega, hcom'⟩
            · rw [List.nodup_append]
              exact ⟨hnd, by simp, by rintro a ha b hb rfl; obtain rfl : a = y := (by simpa using hb); exact hyf ha⟩
            · intro z
              rw [hmem', List.mem_append, hmem]
              simp
    · rintro m₁ news₁ h tk ⟨FD, ys, fs, c, ext, rfl, hfd, hext, hHax, hSf, hnd, hmem, hlen, hcom⟩ F2 N2
      clear F1 N1
      have hsz : (List.toArray vs).size = nm.length := by simpa using hS.length
      have hnl : nm.length ≤ 20 := by rw [hnm]; split <;> simp_all
      rw [hsz, List.take_length] at hmem hcom
      rw [hsz] at hlen
      k_steps
      show wpAny _ _ _ _ _ _
      refine sorted_strK F2 N2 (vs := ys) ⟨_, (N2 _ (.head _)).1, rfl, _, rfl⟩ hSf (by omega) (fun D h' vs' ss' e F3 N3 l1 hS' hp hs' => ?_)
      k_steps
      show wpAny _ _ _ _ _ _
      have hl' : vs'.length ≤ 20 := by have := hS'.length; have := hp.length_eq; have := hSf.length; omega
      refine tuple_listK F3 N3 (vs := vs') ⟨_, (N3 _ (.head _)).1, rfl, _, rfl⟩ (by omega) (fun D' h' F4 N4 l2 => ?_)
      k_steps
      (try dsimp only)
      refine retT D' vs' ss' _ _ hcom (fun b o e _ => F4.keep _ _ (kg _ _ e)) ?_ (N4 _ (.head _)).1 hS' ⟨hs', hp.nodup_iff.mpr hnd⟩ (fun y => (hp.mem_iff).trans (hmem y)) (by have := hS'.length; omega)
      cases q : s.heap.get? D' with
      | none => rfl
      | some o => exact absurd ((N4 _ (.head _)).2.2.symm.trans (kg _ _ q)) (by simp)

end
end

section
theorem assign_tupK {prog : Program} {w : World} {A : Around} {E : Value → Shared → Prop} {s : Shared} {env : Env} {h₀ : Heap} {L : Addr} {m : Str → Option Value} {news : List (Addr × Obj)} {elts : List PySem.Expr} {k} {pos : Pos} {t : Addr} {items : List Value} {Q : Unit → Shared → Prop}
    (F : Fr h₀ L s.heap m) (N : News h₀ L s.heap news) (ht : IsTup s.heap t items.toArray) (hh : A.handled = none) (hn : (assignEach elts env).length = items.length) (hstar : (assignEach elts env).findIdx? (·.1) = none)
    (h : ∀ h', Fr h₀ L h' m → News h₀ L h' news → wpAny (model prog w) A (assignInOrder ((assignEach elts env).map (·.2)) items) Q E { s with heap := h' }) :
    wpAny (model prog w) A (assign (.Tuple elts k pos) env (.ref t)) Q E s :=
  assign_Tuple_tuple hh ht (by simpa using hn) hstar fun h' he => h h' (F.extBut he (Nat.le_refl _)) fun p hp => ⟨he _ _ (Nat.ne_of_lt (Heap.lt_size (N p hp).1)) (N p hp).1, (N p hp).2⟩

def wTab : List (Str × List Str) :=
  [(Str.ofString "Hani", [Str.ofString "Hanb", Str.ofString "Jpan", Str.ofString "Kore"]), (Str.ofString "Bopo", [Str.ofString "Hanb"]), (Str.ofString "Hang", [Str.ofString "Kore"]),
   (Str.ofString "Hira", [Str.ofString "Jpan"]), (Str.ofString "Kana", [Str.ofString "Jpan"])]

/-- y goes with the signs whose scripts are ss -/
def WideOf (ss : List Str) (y : Str) : Prop := y ∈ ss ∨ ∃ q ∈ wTab, q.1 ∈ ss ∧ y ∈ q.2

section
variable {w : World} {mg mb : Str → Option Value} {mean : ExcName → Option Value} {loose : List Str} {h₀ : Heap} {dp un : Nat} {fr : Option (List Env)} {gd : Option (List Code)} {s : Shared} {Q : Value → Shared → Prop} {E : Value → Shared → Prop}

theorem script_wider_ok {a : Addr} {vs : List Value} {ss : List Str}
    (kp : ∀ b o, h₀.get? b = some o → s.heap.get? b = some o) (X : (hd.heap_1 w.params).In h₀) (T : Top hVw loose mean mg mb h₀) (hdp : dp ≤ 900) (hun : un ≤ 9000)
    (hT : IsTup h₀ a (List.toArray vs)) (hS : StrsAre vs ss) (hl : ss.length ≤ 20) (hnd : ss.Nodup)
    (retT : ∀ b out os h' tk', KeepBut [] s.heap h' → s.heap.get? b = none → h'.get? b = some (tupOf (List.toArray out)) → StrsAre out os → Canon os → (∀ y, y ∈ os ↔ WideOf ss y) → os.length ≤ 35 →
      Q (.ref b) { s with heap := h', toks := tk' }) :
    wpAny (model PR w) (AX dp un fr gd) (call (.ref 36) [.ref a]) Q E s := by
  refine wpAny_call ?_
  refine' code_fn (news := []) (binds := [(Str.ofString "names", .ref a)]) ?k1 ?k2 ?k3 ?k4 ?k6 ?k7 ?k8 ?k9 ?kB ?_ ?c2 ?c3 ?c4 ?c5
  case k1 => exact kp
  case k2 => exact X
  case k3 => exact T
  case k4 => (intro q hq; exact nomatch hq)
  case k6 => k_is
  case k7 => k_is
  case k8 => (simp only [recursionLimit] at *; omega)
  case k9 => first | exact BindsTo.of_eq rfl | exact binds_K (X.keeps kp) rfl (by k_is) rfl rfl rfl
  case kB => exact locs rfl
  case c2 => exact rfl
  case c3 => exact rfl
  case c4 => exact rfl
  case c5 => decide
  intro g L' h₁ hg hkg hgs F N X' T'
  dsimp only
  k_fold
  have kg : ∀ b o, s.heap.get? b = some o → g.get? b = some o := fun b o e => hkg b o e (fun h => nomatch h)
  have hTg := hT.keeps hg
  have hvl := hS.length
  k_steps
  show wpAny _ _ _ _ _ _
  rename Fr _ _ _ _ => F1
  rename News _ _ _ _ => N1
  refine list_tupleK F1 N1 (hTg.keeps F1.keep) (by omega) (fun FD c h' F2 N2 l1 => ?_)
  clear F1 N1
  k_steps
  show wpAny _ _ _ _ _ _
  refine wpAny_For ?_
  k_steps
  show wpAny _ _ _ _ _ _
  rename Fr _ _ _ _ => F1
  rename News _ _ _ _ => N1
  rename_i D hD lD
  have N2 := News.lastFirst N1 (List.cons_ne_nil _ _)
  dsimp only [List.getLast, List.dropLast] at N2
  obtain ⟨its, ext, N3, hme, hi5, hext, hpr⟩ : ∃ (its : List Value) (ext : List (Addr × Obj)), News g L' hD ((FD, listOf (List.toArray vs) c) :: ext) ∧ (D, tupOf (List.toArray its)) ∈ ext ∧ its.length = 5 ∧ (∀ p ∈ ext, p.1 ≠ FD) ∧
      (∀ (i : Nat) (v : Value), its[i]? = some v → ∃ (p : Addr) (sm : Str) (t : Tok) (wa : Addr) (wvs : List Value) (wider : List Str), v = .ref p ∧ (p, tupOf (List.toArray [Value.str sm t, Value.ref wa])) ∈ ext ∧ (wa, tupOf (List.toArray wvs)) ∈ ext ∧ StrsAre wvs wider ∧ wTab[i]? = some (sm, wider) ∧ wider.length ≤ 3) := by
    refine ⟨_, _, N2, .head _, rfl, by k_all, ?_⟩
    intro i v hv
    rcases i with _ | _ | _ | _ | _ | i <;> simp only [List.getElem?_cons_zero, List.getElem?_cons_succ, Option.some.injEq, List.getElem?_nil, reduceCtorEq] at hv <;>
      first | (subst hv; exact ⟨_, _, _, _, _, _, rfl, by k_mem, by k_mem, by repeat constructor, rfl, by decide⟩) | contradiction
  clear N1 N2
  refine for_tup (items := List.toArray its) (fun ax i m news => ∃ ys fs c, news = (FD, listOf (List.toArray ys) c) :: ext ∧ m (Str.ofString "found") = some (.ref FD) ∧ m (Str.ofString "names") = some (.ref a) ∧
      StrsAre ys fs ∧ fs.Nodup ∧ (∀ y, y ∈ fs ↔ y ∈ ss ∨ ∃ q ∈ wTab.take i, q.1 ∈ ss ∧ y ∈ q.2) ∧ ys.length ≤ ss.length + 3 * i) rfl F1 N3 ⟨vs, ss, c, rfl, rfl, rfl, hS, hnd, by simp, by omega⟩ ?_ ?_ ?_
  · rintro i m news h ⟨ys, fs, c, rfl, r⟩ F N
    exact ⟨_, (N _ (.tail _ hme)).1, rfl, _, rfl⟩
  · rintro I i v it m₁ news₁ h tk hi hv hOb ⟨ys, fs, c, rfl, hfd, hnms, hSf, hnf, hmem, hlen⟩ - hnI hlt F2 N2
    clear F1 N3
    obtain ⟨p, sm, t, wa, wvs, wider, rfl, hp, hwa, hW, hq, hw3⟩ := hpr i v (by simpa using hv)
    have hIF : FD ≠ I := hnI _ (.head _)
    have hi5' : i < 5 := (List.getElem?_eq_some_iff.mp hq).1
    have htk : ∀ (P : Str × List Str → Prop), (∃ q ∈ wTab.take (i + 1), P q) ↔ (∃ q ∈ wTab.take i, P q) ∨ P (sm, wider) := by
      intro P
      rw [List.take_add_one, hq]
      simp only [Option.toList_some, List.mem_append, List.mem_singleton]
      constructor
      · rintro ⟨q, h | rfl, hP⟩
        · exact .inl ⟨q, h, hP⟩
        · exact .inr hP
      · rintro (⟨q, h, hP⟩ | hP)
        · exact ⟨q, .inl h, hP⟩
        · exact ⟨_, .inr rfl, hP⟩
    refine assign_tupK F2 N2 (items := [Value.str sm t, Value.ref wa]) ⟨_, (N2 _ (.tail _ (.tail _ hp))).1, rfl, _, rfl⟩ rfl rfl rfl (fun h' F3 N3 => ?_)
    clear F2 N2
    k_steps
    show wpAny _ _ _ _ _ _
    rename Fr _ _ _ _ => F2
    rename News _ _ _ _ => N2
    refine in_tup_mem (hTg.keeps F2.keep) hS ?_
    by_cases hsm : sm ∈ ss
    · rw [decide_eq_true hsm]
      k_steps
      show wpAny _ _ _ _ _ _
      refine wpAny_For (ld F2 rfl ?_)
      refine for_tup (items := List.toArray wvs) (fun ax j m news => ∃ ys fs c, news = (I, it) :: (FD, listOf (List.toArray ys) c) :: ext ∧ m (Str.ofString "found") = some (.ref FD) ∧ m (Str.ofString "names") = some (.ref a) ∧
        StrsAre ys fs ∧ fs.Nodup ∧ (∀ y, y ∈ fs ↔ (y ∈ ss ∨ ∃ q ∈ wTab.take i, q.1 ∈ ss ∧ y ∈ q.2) ∨ y ∈ wider.take j) ∧ ys.length ≤ ss.length + 3 * i + j) rfl F2 N2 ⟨ys, fs, c, rfl, hfd, hnms, hSf, hnf, by simpa using hmem, by omega⟩ ?_ ?_ ?_
      · rintro j m news h ⟨ys, fs, c, rfl, r⟩ F N
        exact ⟨_, (N _ (.tail _ (.tail _ hwa))).1, rfl, _, rfl⟩
      · clear F2 N2
        rintro I2 j v it2 m₂ news₂ h tk2 hj hv2 hOb2 ⟨ys, fs, c, rfl, hfd, hnms, hSf, hnf, hmem, hlen⟩ - hnI2 hlt2 F2 N2
        obtain ⟨y, t, rfl, hy⟩ := StrsAre.get hW (by simpa using hv2)
        have hj3 : j < wider.length := (List.getElem?_eq_some_iff.mp hy).1
        have hmem' : ∀ z, z ∈ wider.take (j + 1) ↔ z ∈ wider.take j ∨ z = y := by
          intro z
          rw [List.take_add_one, hy]
          simp
        refine wpAny_assign_Name (stN F2 N2 (fun h' F3 N3 => ?_) rfl rfl)
        clear F2 N2
        k_steps
        show wpAny _ _ _ _ _ _
        refine notin_list_mem (vs := ys) (ys := fs) ⟨_, (N3 _ (.tail _ (.tail _ (.head _)))).1, rfl, _, rfl⟩ hSf ?_
        by_cases hyf : y ∈ fs
        · rw [decide_eq_true hyf, Bool.not_true]
          k_steps
          rename Fr _ _ _ _ => F4
          rename News _ _ _ _ => N4
          refine TurnK.intro F4 N4 (fun p hp => hp) hnI2 ⟨ys, fs, c, rfl, hfd, hnms, hSf, hnf, ?_, by omega⟩
          intro z
          rw [hmem', ← or_assoc, ← hmem]
          exact ⟨fun h => .inl h, fun h => h.elim id (fun e => by rw [e]; exact hyf)⟩
        · rw [decide_eq_false hyf, Bool.not_false]
          k_steps
          show wpAny _ _ _ _ _ _
          rename Fr _ _ _ _ => F4
          rename News _ _ _ _ => N4
          refine append_K F4 N4 (.tail (hnI2 _ (.tail _ (.head _))).symm (.tail hIF.symm (.head hext))) (fun h' F5 N5 => ?_) (by rw [sizeLine_eq]; simp; omega)
          k_steps
          refine TurnK.intro F5 N5 (fun p hp => hp) (by
            rintro p (_ | ⟨_, _ | ⟨_, hp⟩⟩)
            · exact hnI2 (I, it) (.head _)
            · show FD ≠ I2
              exact hnI2 (FD, listOf (List.toArray ys) c) (.tail _ (.head _))
            · exact hnI2 p (.tail _ (.tail _ hp))) ⟨ys ++ [.str y t], fs ++ [y], c + 1, by simp, hfd, hnms, hSf.append' (.cons _ _ .nil), ?_, ?_, by simp; omega⟩
          · rw [List.nodup_append]
            exact ⟨hnf, by simp, by rintro a ha b hb rfl; obtain rfl : a = y := (by simpa using hb); exact hyf ha⟩
          · intro z
            rw [hmem', List.mem_append, hmem, ← or_assoc]
            simp
      · clear F2 N2
        rintro m₂ news₂ h tk2 ⟨ys, fs, c, rfl, hfd, hnms, hSf, hnf, hmem, hlen⟩ F2 N2
        have hsz : (List.toArray wvs).size = wider.length := by simpa using hW.length
        rw [hsz, List.take_length] at hmem
        rw [hsz] at hlen
        k_steps
        refine TurnK.intro F2 N2 (fun p hp => hp) (by
            rintro p (_ | ⟨_, hp⟩)
            · exact hIF
            · exact hnI p (.tail _ hp)) ⟨ys, fs, c, rfl, hfd, hnms, hSf, hnf, ?_, by omega⟩
        intro y
        rw [hmem, htk (fun q => q.1 ∈ ss ∧ y ∈ q.2), or_assoc]
        simp [hsm]
    · rw [decide_eq_false hsm]
      k_steps
      refine TurnK.intro F2 N2 (fun p hp => hp) hnI ⟨ys, fs, c, rfl, hfd, hnms, hSf, hnf, ?_, by omega⟩
      intro y
      rw [hmem, htk (fun q => q.1 ∈ ss ∧ y ∈ q.2)]
      simp [hsm]
  · rintro m₁ news₁ h tk ⟨ys, fs, c, rfl, hfd, hnms, hSf, hnf, hmem, hlen⟩ F2 N2
    clear F1 N3
    have hsz : (List.toArray its).size = wTab.length := by rw [List.size_toArray, hi5]; rfl
    rw [hsz, List.take_length] at hmem
    rw [hsz] at hlen
    have hys : ys.length ≤ 35 := by have : wTab.length = 5 := rfl; omega
    k_steps
    show wpAny _ _ _ _ _ _
    refine sorted_strK F2 N2 (vs := ys) ⟨_, (N2 _ (.head _)).1, rfl, _, rfl⟩ hSf (by omega) (fun D h' vs' ss' e F3 N3 l1 hS' hp hs' => ?_)
    k_steps
    show wpAny _ _ _ _ _ _
    have hl' : vs'.length ≤ 35 := by have := hS'.length; have := hp.length_eq; have := hSf.length; omega
    refine tuple_listK F3 N3 (vs := vs') ⟨_, (N3 _ (.head _)).1, rfl, _, rfl⟩ (by omega) (fun D' h' F4 N4 l2 => ?_)
    k_steps
    (try dsimp only)
    refine retT D' vs' ss' _ _ (fun b o e _ => F4.keep _ _ (kg _ _ e)) ?_ (N4 _ (.head _)).1 hS' ⟨hs', hp.nodup_iff.mpr hnf⟩ (fun y => (hp.mem_iff).trans (hmem y)) (by have := hS'.length; omega)
    cases q : s.heap.get? D' with
    | none => rfl
    | some o => exact absurd ((N4 _ (.head _)).2.2.symm.trans (kg _ _ q)) (by simp)
end
end

section
section
variable {prog : Program} {w : World} {A : Around} {s : Shared} {K : Frag} {h₀ : Heap} {mg mb : Str → Option Value} {news : List (Addr × Obj)} {p : Program} {loose : List Str} {mean : ExcName → Option Value}

/-- the entry of a def whose block's names are shared with a comprehension -/
theorem code_fnC {R : Result → Shared → Prop} {name qual : Str} {params : Arguments} {body : List Stmt} {scope : Scope} {dV kV doc pm cdv ct oc : Value} {an od : Option Addr} {osl : Array (Option Value)} {f : Addr} {args : Args} {binds : List (Str × Value)}
    (kp : ∀ b o, h₀.get? b = some o → s.heap.get? b = some o) (X₀ : K.In h₀) (T : Top p loose mean mg mb h₀)
    (hn : ∀ q ∈ news, s.heap.get? q.1 = some q.2 ∧ h₀.get? q.1 = none)
    (ho : K.lookup f = some ⟨oc, od, .func (fnOf name qual params body scope dV kV doc pm an cdv ct), osl⟩) (hcd : codeIn K cdv qual = true) (hroom : A.depth < recursionLimit)
    (hbind : BindsTo s (fnOf name qual params body scope dV kV doc pm an cdv ct) args binds) (hkind : (binds.all fun y => scope.names.lookup y.1 == some .local || scope.names.lookup y.1 == some .cell) = true)
    (hnd : ((cellsFrom 0 scope.names []).map (·.1)).Nodup)
    (h : ∀ g L' h₁ tk cells, (∀ b o, h₀.get? b = some o → g.get? b = some o) → KeepBut (news.map (·.1)) s.heap g → (∀ b o, g.get? b = some o → s.heap.get? b = some o) →
      Fr g L' h₁ (bindL (envOfC qual scope L' f cdv).kindOf binds fun _ => none) → News g L' h₁ (cells ++ news) → CellsAre (bindC (envOfC qual scope L' f cdv).kindOf binds fun _ => none) (cellsFrom (L' + 1) scope.names []) cells →
      K.In g → Top p loose mean mg mb g → (∀ p ∈ news, p.1 < L') →
      wpAny (model prog w) (A.deeper (envOfC qual scope L' f cdv)) (execs body (envOfC qual scope L' f cdv))
        (fun fl s' => R (.ok (.ret (match fl with | .ret v => v | _ => .none))) s')
        (fun _ _ => False)
        { s with heap := h₁, toks := tk })
    (hco : scope.isCoroutine = false) (hgen : scope.isGenerator = false) (hk : scope.kind = .function) : codeAny (model prog w) A (.call (.ref f) args) R s := by
  have nm : ∀ b o, h₀.get? b = some o → b ∉ news.map (·.1) := fun b o e q => by
    obtain ⟨p, hp, rfl⟩ := List.mem_map.mp q
    rw [(hn p hp).2] at e; cases e
  have st : ∀ b o, h₀.get? b = some o → (hideAll s.heap (news.map (·.1))).get? b = some o := fun b o e => hideAll_get _ (kp b o e) (nm b o e)
  refine codeAny_call_function (fd := fnOf name qual params body scope dV kV doc pm an cdv ct) hroom (X₀.keeps kp _ _ ho) rfl hco hgen rfl (codeRec_of (X₀.keeps kp) hcd) (hbind _ _ _ _ ?_)
  refine wpAny_newFunctionEnv_cells hk (kindsX hkind _) fun env' he s' x => ?_
  subst he
  refine ⟨(T.nolimit.keeps kp).keeps x.toInCall.keep, codeAny_func ?_⟩
  obtain ⟨h₁, tk, rfl, _⟩ := x.done
  have hk₁ := x.toInCall.keep
  obtain ⟨cells, NC, Y⟩ := Cl.news (h₀ := s.heap) (Nat.le_refl _) fun n c hm => ⟨x.cell n c (lookup_of_mem_nodup (cellsFrom_names scope.names 0 (s.heap.objs.size + 1) [] [] rfl ▸ hnd) hm), x.above n c hm⟩
  refine wpAny_mono (h (hideAll s.heap (news.map (·.1))) s.heap.objs.size h₁ tk cells st (fun b o e hb => hideAll_get _ e hb) (fun b o e => of_hideAll _ e) ⟨x.toInCall.ns, fun b o e => hk₁ b o (of_hideAll _ e), Nat.le_of_eq (hideAll_size _ _)⟩ (fun p hp => ?_) Y (X₀.keeps st) (T.keeps st) (fun p hp => Heap.lt_size (hn p hp).1)) (fun _ _ x => x) fun _ _ x => x.elim
  rcases List.mem_append.mp hp with hp | hp
  · refine ⟨(NC p hp).1, (NC p hp).2.1, ?_⟩
    cases q : (hideAll s.heap (news.map (·.1))).get? p.1 with
    | none => rfl
    | some o => have := of_hideAll _ q; rw [(NC p hp).2.2] at this; cases this
  · exact ⟨hk₁ _ _ (hn p hp).1, Nat.ne_of_lt (Heap.lt_size (hn p hp).1), hideAll_none _ (List.mem_map_of_mem hp)⟩
end

/-- None, or a tuple of these texts -/
def OIs (h : Heap) (v : Value) : Option (List Str) → Prop
  | none => v = .none
  | some ss => ∃ a vs, v = .ref a ∧ IsTup h a (List.toArray vs) ∧ StrsAre vs ss
end

section
/-- a sequence of texts: a tuple or a list -/
def SeqS (h : Heap) (a : Addr) (vs : List Value) : Prop := IsTup h a (List.toArray vs) ∨ h.IsList a (List.toArray vs)
theorem SeqS.keep {h h' : Heap} {a : Addr} {vs : List Value} (x : SeqS h a vs) (k : ∀ b o, h.get? b = some o → h'.get? b = some o) : SeqS h' a vs :=
  x.imp (fun t => t.keeps k) fun t => t.at fun o e => k _ o e

/-- the look of a filter: «in» or «not in» -/
def inOp (neg : Bool) : CmpOp := if neg then .NotIn else .In
def passOf (neg : Bool) (ts : List Str) (y : Str) : Bool := if neg then !decide (y ∈ ts) else decide (y ∈ ts)
def passV (neg : Bool) (ts : List Str) : Value → Bool
  | .str y _ => passOf neg ts y
  | _ => false
theorem filter_strs {p : Str → Bool} {pv : Value → Bool} (hp : ∀ y t, pv (.str y t) = p y) {vs : List Value} {ss : List Str} (h : StrsAre vs ss) : StrsAre (vs.filter pv) (ss.filter p) := by
  induction h with
  | nil => exact .nil
  | cons y t _ ih =>
    rw [List.filter_cons, List.filter_cons, hp]
    split
    · exact .cons y t ih
    · exact ih
theorem paired_eq {vs ys : List Value} (h : Paired (fun v y => y = v) vs ys) : ys = vs := by
  induction h with
  | nil => rfl
  | cons a _ ih => rw [a, ih]

section
variable {prog : Program} {w : World} {A : Around} {E : Value → Shared → Prop} {s : Shared}
theorem in_seq {neg : Bool} {l : Addr} {vs : List Value} {ys : List Str} {k : Str} {t : Tok} {Q : Value → Shared → Prop} (hl : SeqS s.heap l vs) (hi : StrsAre vs ys)
    (h : Q (.bool (passOf neg ys k)) s) : wpAny (model prog w) A (compareOp (inOp neg) (.str k t) (.ref l)) Q E s := by
  rcases hl with hl | hl <;> cases neg
  · exact in_tup_mem hl hi h
  · exact notin_tup_mem hl hi h
  · exact in_list_mem hl hi h
  · exact notin_list_mem hl hi h

theorem forIn_one {c : PySem.Expr} {cenv : Env} {Q : Bool → Shared → Prop} (h : wpAny (model prog w) A (isTrue c cenv (eval c cenv)) Q E s) :
    wpAny (model prog w) A (forIn [c] true fun c r => if r = true then do let ok ← isTrue c cenv (eval c cenv); pure (ForInStep.yield ok) else pure (ForInStep.yield r)) Q E s := by
  simp only [List.forIn_cons, List.forIn_nil, if_true]
  refine wpAny_bind (wpAny_bind (wpAny_mono h (fun ok s' hq => wpAny_pure ?_) fun _ _ x => x))
  exact wpAny_pure hq

variable {env : Env} {h₀ : Heap} {m : Str → Option Value} {news : List (Addr × Obj)}

theorem comp_filter {x y : Str} {p1 p2 p3 p4 p5 pos : Pos} {iter : PySem.Expr} {scope : Scope} {neg : Bool} {ax b cy : Addr} {vs us : List Value} {ss ts : List Str} {oc : Obj} {Q : Value → Shared → Prop} {cl : List (Str × Addr)}
    (F : Fr h₀ env.locals s.heap m) (N : News h₀ env.locals s.heap news) (hh : A.handled = none)
    (hit : ∀ Q' : Value → Shared → Prop, Q' (.ref ax) s → wpAny (model prog w) A (eval iter env) Q' E s)
    (hax : SeqS s.heap ax vs) (hS : StrsAre vs ss) (hl : ss.length ≤ 1000)
    (hcell : (cy, oc) ∈ news) (hoc : oc.data = .cell (some (.ref b))) (hb : SeqS s.heap b us) (hS2 : StrsAre us ts)
    (hclos : closureFor scope env = pure cl) (hcl : cl.lookup y = some cy) (hcells : ∀ z ∈ scope.names, z.2 ≠ .cell) (hkind : scope.kind = .function)
    (hnames : ∀ z ∈ scope.names, z.2 = .local → scope.names.lookup z.1 = some .local) (hx : scope.names.lookup x = some .local)
    (hxk : ∀ C, (compEnvC scope cl C env).kindOf x = some .local) (hyk : ∀ C, (compEnvC scope cl C env).kindOf y = some .cell)
    (hdx : (x == ("__debug__" : Str)) = false) (hdy : (y == ("__debug__" : Str)) = false)
    (hmk : behindInMarks (inOp neg) (.Name y p4) = false)
    (h : ∀ D h' tk out c, Fr h₀ env.locals h' m → News h₀ env.locals h' ((D, listOf (List.toArray out) c) :: news) → (∀ p ∈ news, p.1 ≠ D) → StrsAre out (ss.filter (passOf neg ts)) → Q (.ref D) { s with heap := h', toks := tk })
    (hs : ∀ x, foldedSetIterable iter env x = pure x := by intro _; rfl) :
    wpAny (model prog w) A (eval (.ListComp (.Name x p1) [⟨.Name x p2, iter, [.Compare (.Name x p3) [inOp neg] [.Name y p4] p5], 0⟩] scope pos) env) Q E s := by
  have hvl := hS.length
  refine wpAny_ListComp_free (passV neg ts) (fun v y => y = v) hclos hcells hkind hnames hx (hit _ ?_) hs
  obtain ⟨oL, _, _, hoL, _⟩ := id F.ns
  have quiet : ∀ (s₂ : Shared) (I : Addr), (∀ b o, s.heap.get? b = some o → s₂.heap.get? b = some o) → s.heap.get? I = none →
      QuietOnC prog w A env scope cl x [.Compare (.Name x p3) [inOp neg] [.Name y p4] p5] (.Name x p1) [I] (fun i v => (List.toArray vs)[i]? = some v) (passV neg ts) (fun v y => y = v) s₂ := by
    intro s₂ I hk₂ hI
    have up : ∀ {s₃ : Shared}, (∀ b o, b ∉ [I] → s₂.heap.get? b = some o → s₃.heap.get? b = some o) → ∀ b o, s.heap.get? b = some o → s₃.heap.get? b = some o := fun hk b o e =>
      hk b o (by simp; rintro rfl; rw [hI] at e; cases e) (hk₂ b o e)
    constructor
    · intro C i v s₃ m₃ E' hC hP hn hv hk htk
      obtain ⟨z, t, rfl, hz⟩ := StrsAre.get hS (by simpa using hP)
      refine forIn_one (wpAny_isTrue_Compare1 ?_ hmk)
      refine wpAny_Name (wpAny_loadName_local hkind (hxk C) hn hv ?_) hdx
      refine wpAny_Name (wpAny_loadName_cell hkind (hyk C) hcl ⟨oc, up hk _ _ (N.get hcell), hoc⟩ ?_) hdy
      refine in_seq (hb.keep (up hk)) hS2 (wpAny_truthy_bool ⟨rfl, ⟨s₃.heap, s₃.toks, rfl, fun _ _ e => e⟩⟩)
    · intro C i v s₃ m₃ E' hC hP hp hn hv hk htk
      exact wpAny_Name (wpAny_loadName_local hkind (hxk C) hn hv ⟨rfl, ⟨s₃.heap, s₃.toks, rfl, fun _ _ e => e⟩⟩) hdx
  have fin : ∀ (s₂ : Shared) (I : Addr), (∀ b o, s.heap.get? b = some o → s₂.heap.get? b = some o) → s.heap.get? I = none → (∃ hh tk, s₂ = { s with heap := hh, toks := tk }) →
      ∀ D h' tk ys (us : List Value), s₂.heap.get? D = none → h'.IsList D ys → h'.PlainList D ys → us.length = (List.toArray vs).size → (∀ (j : Nat) (v : Value), us[j]? = some v → (List.toArray vs)[j]? = some v) → Paired (fun v y => y = v) (us.filter (passV neg ts)) ys.toList →
        (∀ b o, b ∉ [I] → s₂.heap.get? b = some o → h'.get? b = some o) → Q (.ref D) { s₂ with heap := h', toks := tk } := by
    rintro s₂ I hk₂ hI ⟨hh, tk₂, rfl⟩ D h' tk ys us hD hl hpl hlen hP hPair hk
    have up : ∀ b o, s.heap.get? b = some o → h'.get? b = some o := fun b o e => hk b o (by simp; rintro rfl; rw [hI] at e; cases e) (hk₂ b o e)
    have hDs : s.heap.get? D = none := by
      cases q : s.heap.get? D with
      | none => rfl
      | some o => have := hk₂ _ _ q; rw [hD] at this; cases this
    have huv : us = vs := by
      apply List.ext_getElem (by simpa using hlen)
      intro i h1 h2
      have := hP i us[i] (List.getElem?_eq_getElem h1)
      simp at this
      rw [List.getElem?_eq_getElem h2] at this
      exact (Option.some.inj this).symm
    subst huv
    obtain ⟨c, hc⟩ := hpl
    have e1 := paired_eq hPair
    have F' : Fr h₀ env.locals h' m := F.keeps up
    have N' : News h₀ env.locals h' news := fun p hp => ⟨up _ _ (N p hp).1, (N p hp).2⟩
    refine h D h' tk ys.toList c F' (News.made F N' (by simpa using hc) hDs) (fun p hp => ?_) (by rw [e1]; exact filter_strs (fun _ _ => rfl) hS)
    rintro rfl
    rw [(N p hp).1] at hDs; cases hDs
  rcases hax with hax | hax
  · have hne : ax ≠ s.heap.objs.size := by obtain ⟨o, e, _⟩ := hax; exact Nat.ne_of_lt (Heap.lt_size e)
    refine wpAny_pyIter_tuple hax ?_
    have hpush : ∀ b o, s.heap.get? b = some o → (s.heap.push { cls := .type "tuple_iterator", data := .fields #[.ref ax, .int 0 0] }).get? b = some o := fun b o e => Heap.get?_push_of_some _ e
    have hI : s.heap.get? s.heap.objs.size = none := Heap.get?_none_of_le (Nat.le_refl _)
    refine ⟨_, _, _, _, _, _, rfl, Walks.tuple hh _ ax hne (List.toArray vs), by rw [sizeLine_eq]; simp; omega, ⟨⟨_, Heap.get?_push_size _ rfl, rfl, rfl⟩, IsTup.keeps hax hpush⟩, ?_, quiet _ _ hpush hI, fin _ _ hpush hI ⟨_, _, rfl⟩⟩
    intro b hb
    obtain ⟨o, e, _⟩ := hax
    have hlt := Heap.lt_size e
    rcases List.mem_cons.mp hb with rfl | hb
    · rw [Heap.size_push]; exact Nat.lt_succ_self _
    · rw [List.mem_singleton.mp hb, Heap.size_push]; exact Nat.lt_succ_of_lt hlt
  · have hne : ax ≠ s.heap.objs.size := by obtain ⟨o, e, _⟩ := hax; exact Nat.ne_of_lt (Heap.lt_size e)
    refine wpAny_pyIter_list hax ?_
    have hpush : ∀ b o, s.heap.get? b = some o → (s.heap.push { cls := .type "list_iterator", data := .fields #[.ref ax, .int 0 0] }).get? b = some o := fun b o e => Heap.get?_push_of_some _ e
    have hI : s.heap.get? s.heap.objs.size = none := Heap.get?_none_of_le (Nat.le_refl _)
    refine ⟨_, _, _, _, _, _, rfl, Walks.list hh _ ax hne (List.toArray vs), by rw [sizeLine_eq]; simp; omega, ⟨⟨_, Heap.get?_push_size _ rfl, rfl, rfl⟩, hax.at fun o e => Heap.get?_push_of_some _ e⟩, ?_, quiet _ _ hpush hI, fin _ _ hpush hI ⟨_, _, rfl⟩⟩
    intro b hb
    obtain ⟨o, e, _⟩ := hax
    have hlt := Heap.lt_size e
    rcases List.mem_cons.mp hb with rfl | hb
    · rw [Heap.size_push]; exact Nat.lt_succ_self _
    · rw [List.mem_singleton.mp hb, Heap.size_push]; exact Nat.lt_succ_of_lt hlt
end
end

section
section
variable {w : World} {mg mb : Str → Option Value} {mean : ExcName → Option Value} {loose : List Str} {h₀ : Heap} {dp un : Nat} {fr : Option (List Env)} {gd : Option (List Code)} {s : Shared} {Q : Value → Shared → Prop} {E : Value → Shared → Prop}

theorem scripts_met_ok {a b : Addr} {vs us : List Value} {ss ts : List Str}
    (kp : ∀ b o, h₀.get? b = some o → s.heap.get? b = some o) (X : (hd.heap_1 w.params).In h₀) (T : Top hVw loose mean mg mb h₀) (hdp : dp ≤ 900) (hun : un ≤ 9000)
    (hT : IsTup h₀ a (List.toArray vs)) (hS : StrsAre vs ss) (hT2 : IsTup h₀ b (List.toArray us)) (hS2 : StrsAre us ts) (hl : ss.length ≤ 40)
    (retT : ∀ c out os h' tk', KeepBut [] s.heap h' → s.heap.get? c = none → h'.get? c = some (tupOf (List.toArray out)) → StrsAre out os → os = ss.filter (fun y => decide (y ∈ ts)) →
      Q (.ref c) { s with heap := h', toks := tk' }) :
    wpAny (model PR w) (AX dp un fr gd) (call (.ref 48) [.ref a, .ref b]) Q E s := by
  refine wpAny_call ?_
  refine' code_fnC (news := []) (binds := [(Str.ofString "one", .ref a), (Str.ofString "other", .ref b)]) ?k1 ?k2 ?k3 ?k4 ?k6 ?k7 ?k8 ?k9 ?kB ?kD ?_ ?c2 ?c3 ?c4
  case k1 => exact kp
  case k2 => exact X
  case k3 => exact T
  case k4 => (intro q hq; exact nomatch hq)
  case k6 => k_is
  case k7 => k_is
  case k8 => (simp only [recursionLimit] at *; omega)
  case k9 => first | exact BindsTo.of_eq rfl | exact binds_K (X.keeps kp) rfl (by k_is) rfl rfl rfl
  case kB => exact rfl
  case kD => decide +kernel
  case c2 => exact rfl
  case c3 => exact rfl
  case c4 => exact rfl
  intro g L' h₁ tk₁ cells hg hkg hgs F N Y X' T' lN
  k_cells Y
  simp only [List.cons_append, List.nil_append] at N
  show wpAny _ _ _ _ _ _
  dsimp only
  k_fold
  have kg : ∀ b o, s.heap.get? b = some o → g.get? b = some o := fun b o e => hkg b o e (fun h => nomatch h)
  have hTg := hT.keeps hg
  have hTg2 := hT2.keeps hg
  have hvl := hS.length
  k_steps
  show wpAny _ _ _ _ _ _
  refine comp_filter (neg := false) (ax := a) (b := b) (vs := vs) (us := us) F N rfl (fun Q' h => nameX_L F rfl h) (.inl (hTg.keeps F.keep)) hS (by omega) (.head _) (by assumption) (.inl (hTg2.keeps F.keep)) hS2 rfl rfl (by decide) rfl (by decide) rfl (fun _ => rfl) (fun _ => rfl) (by decide) (by decide) (by with_unfolding_all rfl)
    (fun D h' tk out c F2 N2 l1 hO => ?_)
  k_steps
  show wpAny _ _ _ _ _ _
  have hol : out.length ≤ 40 := by have := hO.length; have := List.length_filter_le (passOf false ts) ss; omega
  refine tuple_listK F2 N2 (vs := out) ⟨_, (N2 _ (.head _)).1, rfl, _, rfl⟩ (by omega) (fun D' h' F4 N4 l2 => ?_)
  k_steps
  (try dsimp only)
  refine retT D' out _ _ _ (fun b o e _ => F4.keep _ _ (kg _ _ e)) ?_ (N4 _ (.head _)).1 hO rfl
  cases q : s.heap.get? D' with
  | none => rfl
  | some o => exact absurd ((N4 _ (.head _)).2.2.symm.trans (kg _ _ q)) (by simp)

theorem scripts_met_none1_ok {v : Value} {ts : Option (List Str)}
    (kp : ∀ b o, h₀.get? b = some o → s.heap.get? b = some o) (X : (hd.heap_1 w.params).In h₀) (T : Top hVw loose mean mg mb h₀) (hdp : dp ≤ 900) (hun : un ≤ 9000)
    (hv : OIs h₀ v ts)
    (ret : ∀ h' tk', KeepBut [] s.heap h' → Q v { s with heap := h', toks := tk' }) :
    wpAny (model PR w) (AX dp un fr gd) (call (.ref 48) [.none, v]) Q E s := by
  refine wpAny_call ?_
  refine' code_fnC (news := []) (binds := [(Str.ofString "one", .none), (Str.ofString "other", v)]) ?k1 ?k2 ?k3 ?k4 ?k6 ?k7 ?k8 ?k9 ?kB ?kD ?_ ?c2 ?c3 ?c4
  case k1 => exact kp
  case k2 => exact X
  case k3 => exact T
  case k4 => (intro q hq; exact nomatch hq)
  case k6 => k_is
  case k7 => k_is
  case k8 => (simp only [recursionLimit] at *; omega)
  case k9 => first | exact BindsTo.of_eq rfl | exact binds_K (X.keeps kp) rfl (by k_is) rfl rfl rfl
  case kB => exact rfl
  case kD => decide +kernel
  case c2 => exact rfl
  case c3 => exact rfl
  case c4 => exact rfl
  intro g L' h₁ tk₁ cells hg hkg hgs F N Y X' T' lN
  k_cells Y
  simp only [List.cons_append, List.nil_append] at N
  show wpAny _ _ _ _ _ _
  dsimp only
  k_fold
  have kg : ∀ b o, s.heap.get? b = some o → g.get? b = some o := fun b o e => hkg b o e (fun h => nomatch h)
  k_steps
  (try dsimp only)
  exact ret _ _ (fun b o e _ => F.keep _ _ (kg _ _ e))

theorem scripts_met_none2_ok {a : Addr}
    (kp : ∀ b o, h₀.get? b = some o → s.heap.get? b = some o) (X : (hd.heap_1 w.params).In h₀) (T : Top hVw loose mean mg mb h₀) (hdp : dp ≤ 900) (hun : un ≤ 9000)
    (ret : ∀ h' tk', KeepBut [] s.heap h' → Q (.ref a) { s with heap := h', toks := tk' }) :
    wpAny (model PR w) (AX dp un fr gd) (call (.ref 48) [.ref a, .none]) Q E s := by
  refine wpAny_call ?_
  refine' code_fnC (news := []) (binds := [(Str.ofString "one", .ref a), (Str.ofString "other", .none)]) ?k1 ?k2 ?k3 ?k4 ?k6 ?k7 ?k8 ?k9 ?kB ?kD ?_ ?c2 ?c3 ?c4
  case k1 => exact kp
  case k2 => exact X
  case k3 => exact T
  case k4 => (intro q hq; exact nomatch hq)
  case k6 => k_is
  case k7 => k_is
  case k8 => (simp only [recursionLimit] at *; omega)
  case k9 => first | exact BindsTo.of_eq rfl | exact binds_K (X.keeps kp) rfl (by k_is) rfl rfl rfl
  case kB => exact rfl
  case kD => decide +kernel
  case c2 => exact rfl
  case c3 => exact rfl
  case c4 => exact rfl
  intro g L' h₁ tk₁ cells hg hkg hgs F N Y X' T' lN
  k_cells Y
  simp only [List.cons_append, List.nil_append] at N
  show wpAny _ _ _ _ _ _
  dsimp only
  k_fold
  have kg : ∀ b o, s.heap.get? b = some o → g.get? b = some o := fun b o e => hkg b o e (fun h => nomatch h)
  k_steps
  (try dsimp only)
  exact ret _ _ (fun b o e _ => F.keep _ _ (kg _ _ e))
end
end

section
section
variable {w : World} {mg mb : Str → Option Value} {mean : ExcName → Option Value} {loose : List Str} {h₀ : Heap} {dp un : Nat} {fr : Option (List Env)} {gd : Option (List Code)} {s : Shared} {Q : Value → Shared → Prop} {E : Value → Shared → Prop}

theorem script_wider_none_ok
    (kp : ∀ b o, h₀.get? b = some o → s.heap.get? b = some o) (X : (hd.heap_1 w.params).In h₀) (T : Top hVw loose mean mg mb h₀) (hdp : dp ≤ 900) (hun : un ≤ 9000)
    (ret : ∀ h' tk', KeepBut [] s.heap h' → Q .none { s with heap := h', toks := tk' }) :
    wpAny (model PR w) (AX dp un fr gd) (call (.ref 36) [.none]) Q E s := by
  refine wpAny_call ?_
  refine' code_fn (news := []) (binds := [(Str.ofString "names", .none)]) ?k1 ?k2 ?k3 ?k4 ?k6 ?k7 ?k8 ?k9 ?kB ?_ ?c2 ?c3 ?c4 ?c5
  case k1 => exact kp
  case k2 => exact X
  case k3 => exact T
  case k4 => (intro q hq; exact nomatch hq)
  case k6 => k_is
  case k7 => k_is
  case k8 => (simp only [recursionLimit] at *; omega)
  case k9 => first | exact BindsTo.of_eq rfl | exact binds_K (X.keeps kp) rfl (by k_is) rfl rfl rfl
  case kB => exact locs rfl
  case c2 => exact rfl
  case c3 => exact rfl
  case c4 => exact rfl
  case c5 => decide
  intro g L' h₁ hg hkg hgs F N X' T'
  dsimp only
  k_fold
  have kg : ∀ b o, s.heap.get? b = some o → g.get? b = some o := fun b o e => hkg b o e (fun h => nomatch h)
  k_steps
  (try dsimp only)
  exact ret _ _ (fun b o e _ => Fr.keep (by assumption) _ _ (kg _ _ e))

theorem augmented_ok {da : Addr} {p q : List (Int × AV)} {x : Int} {tx : Tok} {name : Str} {some' nm : List Str}
    (kp : ∀ b o, h₀.get? b = some o → s.heap.get? b = some o) (X : (hd.heap_1 w.params).In h₀) (T : Top hVw loose mean mg mb h₀) (hdp : dp ≤ 850) (hun : un ≤ 8500)
    (Dt : DataRep w h₀ da p q) (hx : 0 ≤ x) (hn : den p x = .str name) (hso : den q x = if some' = [] then .none else .tup some') (hl : some'.length ≤ 20) (hnm : nm = if some' = [] then [name] else some')
    (retN : ∀ h' tk', (∃ y ∈ nm, isCommon y = true) → KeepBut [] s.heap h' → Q .none { s with heap := h', toks := tk' })
    (retT : ∀ a out os h' tk', (∀ y ∈ nm, isCommon y = false) → KeepBut [] s.heap h' → s.heap.get? a = none → h'.get? a = some (tupOf (List.toArray out)) → StrsAre out os → Canon os → (∀ y, y ∈ os ↔ WideOf nm y) → os.length ≤ 35 →
      Q (.ref a) { s with heap := h', toks := tk' }) :
    wpAny (model PR w) (AX dp un fr gd) (call (.ref 43) [.int x tx, .ref da]) Q E s := by
  refine wpAny_call ?_
  refine' code_fn (news := []) (binds := [(Str.ofString "code", .int x tx), (Str.ofString "data", .ref da)]) ?k1 ?k2 ?k3 ?k4 ?k6 ?k7 ?k8 ?k9 ?kB ?_ ?c2 ?c3 ?c4 ?c5
  case k1 => exact kp
  case k2 => exact X
  case k3 => exact T
  case k4 => (intro q hq; exact nomatch hq)
  case k6 => k_is
  case k7 => k_is
  case k8 => (simp only [recursionLimit] at *; omega)
  case k9 => first | exact BindsTo.of_eq rfl | exact binds_K (X.keeps kp) rfl (by k_is) rfl rfl rfl
  case kB => exact locs rfl
  case c2 => exact rfl
  case c3 => exact rfl
  case c4 => exact rfl
  case c5 => decide
  intro g L' h₁ hg hkg hgs F N X' T'
  dsimp only
  k_fold
  have kg : ∀ b o, s.heap.get? b = some o → g.get? b = some o := fun b o e => hkg b o e (fun h => nomatch h)
  have Dg := Dt.keep hg
  k_steps
  show wpAny _ _ _ _ _ _
  rename Fr _ _ _ _ => F1
  rename News _ _ _ _ => N1
  refine script_set_ok F1.keep X' T' (by (try dsimp only); omega) (by (try dsimp only); omega) Dg hx hn hso hl hnm (fun h' tk' hc hk => ?_) (fun a out ss h' tk' hc hk ha ho hS hcan hmem hlen => ?_)
  · have F2 := Fr.behind0 F1 hk
    have N2 := News.behind0 N1 hk
    clear hk F1 N1
    k_steps
    show wpAny _ _ _ _ _ _
    refine script_wider_none_ok F2.keep X' T' (by (try dsimp only); omega) (by (try dsimp only); omega) (fun h' tk' hk => ?_)
    have F3 := Fr.behind0 F2 hk
    (try dsimp only)
    exact retN _ _ hc (fun b o e _ => F3.keep _ _ (kg _ _ e))
  · have F2 := Fr.behind0 F1 hk
    have N2 := News.made F1 (News.behind0 N1 hk) ho ha
    clear hk F1 N1
    k_steps
    show wpAny _ _ _ _ _ _
    refine script_wider_ok (h₀ := h') (fun _ _ e => e) (X'.keeps F2.keep) (T'.keeps F2.keep) (by (try dsimp only); omega) (by (try dsimp only); omega) ⟨_, ho, rfl, _, rfl⟩ hS (by omega) hcan.2 (fun b out2 os h2 tk2 hk2 hb hb2 hS2 hcan2 hmem2 hlen2 => ?_)
    have F3 := Fr.behind0 F2 hk2
    (try dsimp only)
    refine retT b out2 os h2 tk2 hc (fun c o e _ => F3.keep _ _ (kg _ _ e)) ?_ hb2 hS2 hcan2 (fun y => ?_) hlen2
    · cases q : s.heap.get? b with
      | none => rfl
      | some o => exact absurd (hb.symm.trans (F2.keep _ _ (kg _ _ q))) (by simp)
    · rw [hmem2]
      unfold WideOf
      simp only [hmem]
end
end

section
theorem ltCps_false (a b : List Nat) : ltCps a b = false ↔ b ≤ a := by
  rw [ltCps_eq]
  simp only [decide_eq_false_iff_not, List.not_lt]

theorem rising_pairwise : ∀ (p : Str) (l : List Str), risingS p l = true → (p :: l).Pairwise (fun a b => a.cps.toList ≤ b.cps.toList)
  | p, [], _ => by simp
  | p, x :: r, h => by
    have h' : (!ltCps x.cps.toList p.cps.toList && risingS x r) = true := h
    rw [Bool.and_eq_true] at h'
    have h1 : p.cps.toList ≤ x.cps.toList := (ltCps_false _ _).mp (by simpa using h'.1)
    have ih := rising_pairwise x r h'.2
    refine List.pairwise_cons.mpr ⟨fun y hy => ?_, ih⟩
    rcases List.mem_cons.mp hy with rfl | hy
    · exact h1
    · exact List.le_trans h1 ((List.pairwise_cons.mp ih).1 y hy)
theorem sorted_pairwise : ∀ (l : List Str), sortedS l = true → l.Pairwise (fun a b => a.cps.toList ≤ b.cps.toList)
  | [], _ => .nil
  | x :: r, h => rising_pairwise x r h
theorem pairwise_sorted (l : List Str) (h : l.Pairwise (fun a b => a.cps.toList ≤ b.cps.toList)) : sortedS l = true :=
  sortedS_of_pairwise l (h.imp fun h => (ltCps_false _ _).mpr h)
theorem str_antisymm {a b : Str} (h1 : a.cps.toList ≤ b.cps.toList) (h2 : b.cps.toList ≤ a.cps.toList) : a = b := by
  have := List.le_antisymm h1 h2
  cases a; cases b
  simp at this
  rw [this]
theorem eq_of_canon : ∀ {l l' : List Str}, l.Pairwise (fun a b => a.cps.toList ≤ b.cps.toList) → l'.Pairwise (fun a b => a.cps.toList ≤ b.cps.toList) → l.Nodup → l'.Nodup → (∀ y, y ∈ l ↔ y ∈ l') → l = l'
  | [], [], _, _, _, _, _ => rfl
  | [], b :: _, _, _, _, _, h => by have := (h b).mpr (.head _); simp at this
  | a :: _, [], _, _, _, _, h => by have := (h a).mp (.head _); simp at this
  | a :: r, b :: r', h1, h2, n1, n2, h => by
    have h1' := List.pairwise_cons.mp h1
    have h2' := List.pairwise_cons.mp h2
    have n1' := List.nodup_cons.mp n1
    have n2' := List.nodup_cons.mp n2
    have hab : a = b := by
      rcases List.mem_cons.mp ((h a).mp (.head _)) with e | ha
      · exact e
      · rcases List.mem_cons.mp ((h b).mpr (.head _)) with e | hb
        · exact e.symm
        · exact str_antisymm (h1'.1 b hb) (h2'.1 a ha)
    subst hab
    congr 1
    refine eq_of_canon h1'.2 h2'.2 n1'.2 n2'.2 fun y => ⟨fun hy => ?_, fun hy => ?_⟩
    · rcases List.mem_cons.mp ((h y).mp (.tail _ hy)) with rfl | h'
      · exact absurd hy n1'.1
      · exact h'
    · rcases List.mem_cons.mp ((h y).mpr (.tail _ hy)) with rfl | h'
      · exact absurd hy n2'.1
      · exact h'
theorem Canon.eq {l l' : List Str} (h : Canon l) (h' : Canon l') (e : ∀ y, y ∈ l ↔ y ∈ l') : l = l' := eq_of_canon (sorted_pairwise _ h.1) (sorted_pairwise _ h'.1) h.2 h'.2 e
theorem Canon.filter {l : List Str} (h : Canon l) (p : Str → Bool) : Canon (l.filter p) :=
  ⟨pairwise_sorted _ ((sorted_pairwise _ h.1).filter _), h.2.filter _⟩

/-- what is drawn of a sign: its script, its further scripts -/
abbrev Signs := Int → Str × List Str
def nmOf (W : Signs) (c : Int) : List Str := if (W c).2 = [] then [(W c).1] else (W c).2
def CommonAt (W : Signs) (c : Int) : Prop := ∃ y ∈ nmOf W c, isCommon y = true
/-- what all signs' scripts have in common -/
def ResSpec (W : Signs) (cs : List Int) : Option (List Str) → Prop
  | none => ∀ c ∈ cs, CommonAt W c
  | some l => (∃ c ∈ cs, ¬ CommonAt W c) ∧ Canon l ∧ ∀ y, y ∈ l ↔ ∀ c ∈ cs, ¬ CommonAt W c → WideOf (nmOf W c) y

theorem notCommon {W : Signs} {c : Int} (h : ∀ y ∈ nmOf W c, isCommon y = false) : ¬ CommonAt W c := by
  rintro ⟨y, hy, e⟩
  rw [h y hy] at e; cases e
theorem ResSpec.nil {W : Signs} : ResSpec W [] none := fun _ h => nomatch h
theorem ResSpec.common {W : Signs} {cs : List Int} {c : Int} {r : Option (List Str)} (h : ResSpec W cs r) (hc : CommonAt W c) : ResSpec W (cs ++ [c]) r := by
  cases r with
  | none =>
    intro d hd
    rcases List.mem_append.mp hd with hd | hd
    · exact h d hd
    · rw [List.mem_singleton.mp hd]; exact hc
  | some l =>
    obtain ⟨⟨d, hd, hn⟩, hcan, hm⟩ := h
    refine ⟨⟨d, List.mem_append_left _ hd, hn⟩, hcan, fun y => (hm y).trans ⟨fun h e he hne => ?_, fun h e he hne => h e (List.mem_append_left _ he) hne⟩⟩
    rcases List.mem_append.mp he with he | he
    · exact h e he hne
    · rw [List.mem_singleton.mp he] at hne; exact absurd hc hne
theorem ResSpec.first {W : Signs} {cs : List Int} {c : Int} {k : List Str} (h : ResSpec W cs none) (hc : ¬ CommonAt W c) (hk : Canon k) (hm : ∀ y, y ∈ k ↔ WideOf (nmOf W c) y) : ResSpec W (cs ++ [c]) (some k) := by
  refine ⟨⟨c, by simp, hc⟩, hk, fun y => (hm y).trans ⟨fun hw e he hne => ?_, fun hw => hw c (by simp) hc⟩⟩
  rcases List.mem_append.mp he with he | he
  · exact absurd (h e he) hne
  · rw [List.mem_singleton.mp he]; exact hw
theorem ResSpec.more {W : Signs} {cs : List Int} {c : Int} {l k : List Str} (h : ResSpec W cs (some l)) (hc : ¬ CommonAt W c) (hm : ∀ y, y ∈ k ↔ WideOf (nmOf W c) y) : ResSpec W (cs ++ [c]) (some (l.filter (fun y => decide (y ∈ k)))) := by
  obtain ⟨⟨d, hd, hn⟩, hcan, hl⟩ := h
  refine ⟨⟨d, List.mem_append_left _ hd, hn⟩, hcan.filter _, fun y => ?_⟩
  rw [List.mem_filter, decide_eq_true_eq, hl, hm]
  constructor
  · rintro ⟨h1, h2⟩ e he hne
    rcases List.mem_append.mp he with he | he
    · exact h1 e he hne
    · rw [List.mem_singleton.mp he]; exact h2
  · intro h
    exact ⟨fun e he hne => h e (List.mem_append_left _ he) hne, h c (by simp) hc⟩
/-- the order of the signs and signs that come again turn nothing -/
theorem ResSpec.unique {W : Signs} {cs ds : List Int} {r r' : Option (List Str)} (h : ResSpec W cs r) (h' : ResSpec W ds r') (e : ∀ c, c ∈ cs ↔ c ∈ ds) : r = r' := by
  cases r with
  | none =>
    cases r' with
    | none => rfl
    | some l' =>
      obtain ⟨⟨d, hd, hn⟩, _⟩ := h'
      exact absurd (h d ((e d).mpr hd)) hn
  | some l =>
    obtain ⟨⟨d, hd, hn⟩, hcan, hl⟩ := h
    cases r' with
    | none => exact absurd (h' d ((e d).mp hd)) hn
    | some l' =>
      obtain ⟨_, hcan', hl'⟩ := h'
      rw [hcan.eq hcan' fun y => by rw [hl, hl']; exact ⟨fun h c hc => h c ((e c).mpr hc), fun h c hc => h c ((e c).mp hc)⟩]
/-- a text within another one has no fewer -/
theorem ResSpec.within {W : Signs} {cs ds : List Int} {l l' : List Str} (h : ResSpec W cs (some l)) (h' : ResSpec W ds (some l')) (e : ∀ c, c ∈ ds → c ∈ cs) : ∀ y ∈ l, y ∈ l' := by
  intro y hy
  exact (h'.2.2 y).mpr fun c hc hn => (h.2.2 y).mp hy c (e c hc) hn
end

section
/-- the data says these signs -/
def SignsOk (p q : List (Int × AV)) (W : Signs) (cs : List Int) : Prop :=
  ∀ c ∈ cs, 0 ≤ c ∧ den p c = .str (W c).1 ∧ den q c = (if (W c).2 = [] then .none else .tup (W c).2) ∧ (W c).2.length ≤ 20

theorem IntsAre.getI {vs : List Value} {ns : List Int} (h : IntsAre vs ns) {i : Nat} {v : Value} (e : vs[i]? = some v) : ∃ n t, v = .int n t ∧ ns[i]? = some n := by
  have hl : i < vs.length := (List.getElem?_eq_some_iff.mp e).1
  have hn : i < ns.length := by rw [← h.length]; exact hl
  obtain ⟨t, ht⟩ := h.get i ns[i] (List.getElem?_eq_getElem hn)
  rw [e] at ht
  exact ⟨ns[i], t, Option.some.inj ht, List.getElem?_eq_getElem hn⟩

section
variable {w : World} {mg mb : Str → Option Value} {mean : ExcName → Option Value} {loose : List Str} {h₀ : Heap} {dp un : Nat} {fr : Option (List Env)} {gd : Option (List Code)} {s : Shared} {Q : Value → Shared → Prop} {E : Value → Shared → Prop}

theorem scripts_of_text_ok {da tx : Addr} {p q : List (Int × AV)} {W : Signs} {vs : List Value} {cs : List Int}
    (kp : ∀ b o, h₀.get? b = some o → s.heap.get? b = some o) (X : (hd.heap_1 w.params).In h₀) (T : Top hVw loose mean mg mb h₀) (hdp : dp ≤ 840) (hun : un ≤ 8400)
    (Dt : DataRep w h₀ da p q) (hW : SignsOk p q W cs) (hT : h₀.IsList tx (List.toArray vs)) (hI : IntsAre vs cs) (hlen : cs.length ≤ 1000)
    (retN : ∀ h' tk', KeepBut [] s.heap h' → ResSpec W cs none → Q .none { s with heap := h', toks := tk' })
    (retT : ∀ a out l h' tk', KeepBut [] s.heap h' → s.heap.get? a = none → h'.get? a = some (tupOf (List.toArray out)) → StrsAre out l → l.length ≤ 35 → ResSpec W cs (some l) → Q (.ref a) { s with heap := h', toks := tk' }) :
    wpAny (model PR w) (AX dp un fr gd) (call (.ref 56) [.ref tx, .ref da]) Q E s := by
  refine wpAny_call ?_
  refine' code_fn (news := []) (binds := [(Str.ofString "text", .ref tx), (Str.ofString "data", .ref da), (Str.ofString "is_augmented", .bool true)]) ?k1 ?k2 ?k3 ?k4 ?k6 ?k7 ?k8 ?k9 ?kB ?_ ?c2 ?c3 ?c4 ?c5
  case k1 => exact kp
  case k2 => exact X
  case k3 => exact T
  case k4 => (intro q hq; exact nomatch hq)
  case k6 => k_is
  case k7 => k_is
  case k8 => (simp only [recursionLimit] at *; omega)
  case k9 => first | exact BindsTo.of_eq rfl | exact binds_K (X.keeps kp) rfl (by k_is) rfl rfl rfl
  case kB => exact locs rfl
  case c2 => exact rfl
  case c3 => exact rfl
  case c4 => exact rfl
  case c5 => decide
  intro g L' h₁ hg hkg hgs F N X' T'
  dsimp only
  k_fold
  have kg : ∀ b o, s.heap.get? b = some o → g.get? b = some o := fun b o e => hkg b o e (fun h => nomatch h)
  have Dg := Dt.keep hg
  have hTg : g.IsList tx (List.toArray vs) := hT.at fun o e => hg _ o e
  k_steps
  show wpAny _ _ _ _ _ _
  rename Fr _ _ _ _ => F1
  rename News _ _ _ _ => N1
  refine wpAny_For (ld F1 rfl ?_)
  refine for_list (items := List.toArray vs) (fun ax i m news => (∃ r, ResSpec W (cs.take i) r ∧ ((r = none ∧ m (Str.ofString "found") = some .none ∧ news = []) ∨ ∃ l a out, r = some l ∧ m (Str.ofString "found") = some (.ref a) ∧ news = [(a, tupOf (List.toArray out))] ∧ StrsAre out l ∧ l.length ≤ 35)) ∧
    m (Str.ofString "data") = some (.ref da) ∧ m (Str.ofString "is_augmented") = some (.bool true)) rfl F1 N1 ⟨⟨none, ResSpec.nil, .inl ⟨rfl, rfl, rfl⟩⟩, rfl, rfl⟩ ?_ ?_ ?_
  · rintro i m news h - F N
    exact hTg.at fun o e => F.keep _ o e
  · rintro I i v it m₁ news₁ h tk hi hv hOb ⟨⟨r, hR, hr⟩, md, ma⟩ - hnI hlt F2 N2
    clear F1 N1
    obtain ⟨c, t, rfl, hc⟩ := IntsAre.getI hI (by simpa using hv)
    obtain ⟨hc0, hcn, hcs, hcl⟩ := hW c (List.mem_of_getElem? hc)
    have htk : cs.take (i + 1) = cs.take i ++ [c] := by rw [List.take_add_one, hc]; rfl
    refine wpAny_assign_Name (stN F2 N2 (fun h' F3 N3 => ?_) rfl rfl)
    clear F2 N2
    rcases hr with ⟨rfl, mf, rfl⟩ | ⟨l, a, out, rfl, mf, rfl, hS, hll⟩
    · k_steps
      show wpAny _ _ _ _ _ _
      refine augmented_ok F3.keep X' T' (by (try dsimp only); omega) (by (try dsimp only); omega) Dg hc0 hcn hcs hcl (nm := nmOf W c) rfl (fun h' tk' hco hk => ?_) (fun a out os h' tk' hco hk ha ho hS hcan hmem hlen => ?_)
      · have F4 := Fr.behind0 F3 hk
        have N4 := News.behind0 N3 hk
        clear hk F3 N3
        k_steps
        show wpAny _ _ _ _ _ _
        rename Fr _ _ _ _ => F5
        rename News _ _ _ _ => N5
        refine scripts_met_none1_ok F5.keep X' T' (by (try dsimp only); omega) (by (try dsimp only); omega) (ts := none) rfl (fun h' tk' hk => ?_)
        have F6 := Fr.behind0 F5 hk
        have N6 := News.behind0 N5 hk
        clear hk F5 N5
        k_steps
        rename Fr _ _ _ _ => F7
        rename News _ _ _ _ => N7
        exact TurnK.intro F7 N7 (fun p hp => hp) hnI ⟨⟨none, by rw [htk]; exact hR.common hco, .inl ⟨rfl, rfl, rfl⟩⟩, md, ma⟩
      · have F4 := Fr.behind0 F3 hk
        have N4 := News.made F3 (News.behind0 N3 hk) ho ha
        have haI : a ≠ I := by rintro rfl; rw [(N3 _ (.head _)).1] at ha; cases ha
        clear hk F3 N3
        k_steps
        show wpAny _ _ _ _ _ _
        rename Fr _ _ _ _ => F5
        rename News _ _ _ _ => N5
        refine scripts_met_none1_ok (fun _ _ e => e) (X'.keeps F5.keep) (T'.keeps F5.keep) (by (try dsimp only); omega) (by (try dsimp only); omega) (ts := some os) ⟨a, out, rfl, ⟨_, (N5 _ (.head _)).1, rfl, _, rfl⟩, hS⟩ (fun h' tk' hk => ?_)
        have F6 := Fr.behind0 F5 hk
        have N6 := News.behind0 N5 hk
        clear hk F5 N5
        k_steps
        rename Fr _ _ _ _ => F7
        rename News _ _ _ _ => N7
        refine TurnK.intro (news' := [(a, tupOf (List.toArray out))]) F7 N7 (by simp) (by simpa using haI) ⟨⟨some os, by rw [htk]; exact hR.first (notCommon hco) hcan hmem, .inr ⟨os, a, out, rfl, rfl, rfl, hS, hlen⟩⟩, md, ma⟩
    · k_steps
      show wpAny _ _ _ _ _ _
      have haI : a ≠ I := hnI _ (.head _)
      refine augmented_ok F3.keep X' T' (by (try dsimp only); omega) (by (try dsimp only); omega) Dg hc0 hcn hcs hcl (nm := nmOf W c) rfl (fun h' tk' hco hk => ?_) (fun a2 out2 os h' tk' hco hk ha ho hS2 hcan hmem hlen2 => ?_)
      · have F4 := Fr.behind0 F3 hk
        have N4 := News.behind0 N3 hk
        clear hk F3 N3
        k_steps
        show wpAny _ _ _ _ _ _
        rename Fr _ _ _ _ => F5
        rename News _ _ _ _ => N5
        refine scripts_met_none2_ok F5.keep X' T' (by (try dsimp only); omega) (by (try dsimp only); omega) (fun h' tk' hk => ?_)
        have F6 := Fr.behind0 F5 hk
        have N6 := News.behind0 N5 hk
        clear hk F5 N5
        k_steps
        rename Fr _ _ _ _ => F7
        rename News _ _ _ _ => N7
        exact TurnK.intro F7 N7 (fun p hp => hp) hnI ⟨⟨some l, by rw [htk]; exact hR.common hco, .inr ⟨l, a, out, rfl, rfl, rfl, hS, hll⟩⟩, md, ma⟩
      · have F4 := Fr.behind0 F3 hk
        have N4 := News.made F3 (News.behind0 N3 hk) ho ha
        clear hk F3 N3
        k_steps
        show wpAny _ _ _ _ _ _
        rename Fr _ _ _ _ => F5
        rename News _ _ _ _ => N5
        refine scripts_met_ok (fun _ _ e => e) (X'.keeps F5.keep) (T'.keeps F5.keep) (by (try dsimp only); omega) (by (try dsimp only); omega) (vs := out) (us := out2) ⟨_, (N5 _ (.tail _ (.tail _ (.head _)))).1, rfl, _, rfl⟩ hS ⟨_, (N5 _ (.head _)).1, rfl, _, rfl⟩ hS2 (by omega)
          (fun a3 out3 os3 h' tk' hk ha3 ho3 hS3 he3 => ?_)
        have F6 := Fr.behind0 F5 hk
        have N6 := News.made F5 (News.behind0 N5 hk) ho3 ha3
        have ha3I : a3 ≠ I := by rintro rfl; rw [(N5 _ (.tail _ (.head _))).1] at ha3; cases ha3
        clear hk F5 N5
        k_steps
        rename Fr _ _ _ _ => F7
        rename News _ _ _ _ => N7
        have hl3 : os3.length ≤ 35 := by rw [he3]; have := List.length_filter_le (fun y => decide (y ∈ os)) l; omega
        refine TurnK.intro (news' := [(a3, tupOf (List.toArray out3))]) F7 N7 (by simp) (by simpa using ha3I) ⟨⟨some os3, by rw [htk, he3]; exact hR.more (notCommon hco) hmem, .inr ⟨os3, a3, out3, rfl, rfl, rfl, hS3, hl3⟩⟩, md, ma⟩
  · rintro m₁ news₁ h tk ⟨⟨r, hR, hr⟩, md, ma⟩ F2 N2
    clear F1 N1
    rw [show (List.toArray vs).size = cs.length by simpa using hI.length, List.take_length] at hR
    rcases hr with ⟨rfl, mf, rfl⟩ | ⟨l, a, out, rfl, mf, rfl, hS, hll⟩
    · k_steps
      (try dsimp only)
      exact retN _ _ (fun c o e _ => F2.keep _ _ (kg _ _ e)) hR
    · k_steps
      (try dsimp only)
      refine retT a out l _ _ (fun c o e _ => F2.keep _ _ (kg _ _ e)) ?_ (N2 _ (.head _)).1 hS hll hR
      cases q : s.heap.get? a with
      | none => rfl
      | some o => exact absurd ((N2 _ (.head _)).2.2.symm.trans (kg _ _ q)) (by simp)

theorem resolved_ok {da tx : Addr} {p q : List (Int × AV)} {W : Signs} {vs : List Value} {cs : List Int}
    (kp : ∀ b o, h₀.get? b = some o → s.heap.get? b = some o) (X : (hd.heap_1 w.params).In h₀) (T : Top hVw loose mean mg mb h₀) (hdp : dp ≤ 830) (hun : un ≤ 8300)
    (Dt : DataRep w h₀ da p q) (hW : SignsOk p q W cs) (hT : h₀.IsList tx (List.toArray vs)) (hI : IntsAre vs cs) (hlen : cs.length ≤ 1000)
    (retN : ∀ h' tk', KeepBut [] s.heap h' → ResSpec W cs none → Q .none { s with heap := h', toks := tk' })
    (retT : ∀ a out l h' tk', KeepBut [] s.heap h' → s.heap.get? a = none → h'.get? a = some (tupOf (List.toArray out)) → StrsAre out l → l.length ≤ 35 → ResSpec W cs (some l) → Q (.ref a) { s with heap := h', toks := tk' }) :
    wpAny (model PR w) (AX dp un fr gd) (call (.ref 63) [.ref tx, .ref da]) Q E s := by
  refine wpAny_call ?_
  refine' code_fn (news := []) (binds := [(Str.ofString "text", .ref tx), (Str.ofString "data", .ref da)]) ?k1 ?k2 ?k3 ?k4 ?k6 ?k7 ?k8 ?k9 ?kB ?_ ?c2 ?c3 ?c4 ?c5
  case k1 => exact kp
  case k2 => exact X
  case k3 => exact T
  case k4 => (intro q hq; exact nomatch hq)
  case k6 => k_is
  case k7 => k_is
  case k8 => (simp only [recursionLimit] at *; omega)
  case k9 => first | exact BindsTo.of_eq rfl | exact binds_K (X.keeps kp) rfl (by k_is) rfl rfl rfl
  case kB => exact locs rfl
  case c2 => exact rfl
  case c3 => exact rfl
  case c4 => exact rfl
  case c5 => decide
  intro g L' h₁ hg hkg hgs F N X' T'
  dsimp only
  k_fold
  have kg : ∀ b o, s.heap.get? b = some o → g.get? b = some o := fun b o e => hkg b o e (fun h => nomatch h)
  k_steps
  show wpAny _ _ _ _ _ _
  refine scripts_of_text_ok F.keep X' T' (by (try dsimp only); omega) (by (try dsimp only); omega) (Dt.keep hg) hW (hT.at fun o e => hg _ o e) hI hlen (fun h' tk' hk hR => ?_) (fun a out l h' tk' hk ha ho hS hll hR => ?_)
  · (try dsimp only)
    exact retN _ _ (fun c o e _ => (Fr.behind0 F hk).keep _ _ (kg _ _ e)) hR
  · (try dsimp only)
    refine retT a out l _ _ (fun c o e _ => (Fr.behind0 F hk).keep _ _ (kg _ _ e)) ?_ ho hS hll hR
    cases q : s.heap.get? a with
    | none => rfl
    | some o => exact absurd (ha.symm.trans (F.keep _ _ (kg _ _ q))) (by simp)
end
end

section
open PySem.SeqAt in
theorem all_eq {ss ts : List Str} : ((List.range (min ss.length ts.length)).all (fun j => ss.getD j ⟨#[]⟩ == ts.getD j ⟨#[]⟩) && ss.length == ts.length) = decide (ss = ts) := by
  rw [Bool.eq_iff_iff, Bool.and_eq_true, List.all_eq_true, decide_eq_true_eq]
  constructor
  · rintro ⟨h1, h2⟩
    have h2' : ss.length = ts.length := by simpa using h2
    apply List.ext_getElem h2'
    intro i hi hj
    have := h1 i (by rw [List.mem_range]; omega)
    simpa [List.getD_eq_getElem?_getD, hi, hj] using this
  · rintro rfl
    simp

section
variable {prog : Program} {w : World} {A : Around} {E : Value → Shared → Prop} {s : Shared}
open PySem.SeqAt

theorem strs_at {vs : List Value} {ss : List Str} (h : StrsAre vs ss) (j : Nat) (hj : j < (List.toArray vs).size) : ∃ t, (List.toArray vs)[j] = .str (ss.getD j ⟨#[]⟩) t := by
  have hj' : j < vs.length := by simpa using hj
  obtain ⟨y, t, e, hy⟩ := StrsAre.get h (List.getElem?_eq_getElem hj')
  refine ⟨t, ?_⟩
  rw [List.getD_eq_getElem?_getD, hy]
  simpa using e

theorem eq_tups {l b : Addr} {vs us : List Value} {ss ts : List Str} {Q : Value → Shared → Prop} (hl : IsTup s.heap l (List.toArray vs)) (hb : IsTup s.heap b (List.toArray us)) (hS : StrsAre vs ss) (hS2 : StrsAre us ts) (hu : A.units < cLine)
    (h : Q (.bool (decide (ss = ts))) s) : wpAny (model prog w) A (compareOp .Eq (.ref l) (.ref b)) Q E s := by
  refine eq_tupleAt (e := fun j => ss.getD j ⟨#[]⟩ == ts.getD j ⟨#[]⟩) hl hb hu (fun j h1 h2 => ?_) ?_
  · obtain ⟨t, e⟩ := strs_at hS j h1
    obtain ⟨u, e2⟩ := strs_at hS2 j h2
    rw [e, e2]
    exact EqAt.str_str _ _ _ _
  · have h1 := hS.length
    have h2 := hS2.length
    simp only [List.size_toArray, h1, h2]
    rw [all_eq]; exact h
theorem ne_tups {l b : Addr} {vs us : List Value} {ss ts : List Str} {Q : Value → Shared → Prop} (hl : IsTup s.heap l (List.toArray vs)) (hb : IsTup s.heap b (List.toArray us)) (hS : StrsAre vs ss) (hS2 : StrsAre us ts) (hu : A.units < cLine)
    (h : Q (.bool (!decide (ss = ts))) s) : wpAny (model prog w) A (compareOp .NotEq (.ref l) (.ref b)) Q E s := by
  refine RcNeAt.tuples (e := fun j => ss.getD j ⟨#[]⟩ == ts.getD j ⟨#[]⟩) hl hb hu (fun j h1 h2 => ?_) prog w E Q ?_
  · obtain ⟨t, e⟩ := strs_at hS j h1
    obtain ⟨u, e2⟩ := strs_at hS2 j h2
    rw [e, e2]
    exact EqAt.str_str _ _ _ _
  · have h1 := hS.length
    have h2 := hS2.length
    simp only [List.size_toArray, h1, h2]
    rw [all_eq]; exact h

/-- == of two values of a map -/
theorem eq_av {v u : Value} {a b : AV} {Q : Value → Shared → Prop} (hv : VIs s.heap v a) (hb : VIs s.heap u b) (hu : A.units < cLine) (h : Q (.bool (decide (a = b))) s) : wpAny (model prog w) A (compareOp .Eq v u) Q E s := by
  cases a with
  | none =>
    obtain rfl : v = .none := hv
    cases b with
    | none => obtain rfl : u = .none := hb; exact RcAt.none_none prog w E Q h
    | str y => obtain ⟨t, rfl⟩ := hb; exact RcAt.none_str _ _ prog w E Q h
    | tup ts => obtain ⟨c, us, rfl, hT, hS⟩ := hb; exact RcAt.none_tuple hT hu prog w E Q h
  | str x =>
    obtain ⟨t, rfl⟩ := hv
    cases b with
    | none => obtain rfl : u = .none := hb; exact RcAt.str_none _ _ prog w E Q h
    | str y =>
      obtain ⟨t2, rfl⟩ := hb
      refine RcAt.str_str _ _ _ _ prog w E Q ?_
      rw [show (x == y) = decide (AV.str x = AV.str y) by rw [Bool.eq_iff_iff]; simp]
      exact h
    | tup ts => obtain ⟨c, us, rfl, hT, hS⟩ := hb; exact RcAt.str_tuple _ _ hT hu prog w E Q h
  | tup ss =>
    obtain ⟨c, vs, rfl, hT, hS⟩ := hv
    cases b with
    | none => obtain rfl : u = .none := hb; exact RcAt.tuple_none hT hu prog w E Q h
    | str y => obtain ⟨t2, rfl⟩ := hb; exact RcAt.tuple_str _ _ hT hu prog w E Q h
    | tup ts =>
      obtain ⟨d, us, rfl, hT2, hS2⟩ := hb
      refine eq_tups hT hT2 hS hS2 hu ?_
      rw [show decide (ss = ts) = decide (AV.tup ss = AV.tup ts) by rw [Bool.eq_iff_iff]; simp]
      exact h
/-- != of two results -/
theorem ne_o {v u : Value} {a b : Option (List Str)} {Q : Value → Shared → Prop} (hv : OIs s.heap v a) (hb : OIs s.heap u b) (hu : A.units < cLine) (h : Q (.bool (!decide (a = b))) s) : wpAny (model prog w) A (compareOp .NotEq v u) Q E s := by
  cases a with
  | none =>
    obtain rfl : v = .none := hv
    cases b with
    | none => obtain rfl : u = .none := hb; exact RcNeAt.none_none prog w E Q h
    | some ts => obtain ⟨c, us, rfl, hT, hS⟩ := hb; exact RcNeAt.none_tuple hT hu prog w E Q h
  | some ss =>
    obtain ⟨c, vs, rfl, hT, hS⟩ := hv
    cases b with
    | none => obtain rfl : u = .none := hb; exact RcNeAt.tuple_none hT hu prog w E Q h
    | some ts =>
      obtain ⟨d, us, rfl, hT2, hS2⟩ := hb
      refine ne_tups hT hT2 hS hS2 hu ?_
      rw [show decide (ss = ts) = decide (some ss = some ts) by rw [Bool.eq_iff_iff]; simp]
      exact h
end
end

section
/-- the law's own table of signs -/
def WRep (w : World) (h : Heap) (wa : Addr) (W : Signs) (cs : List Int) : Prop :=
  ∃ kvs : List (Int × Value), h.DictOf (PySem.intKind PR w) wa kvs ∧ (wa == sysModules) = false ∧
    ∀ c ∈ cs, ∃ t tn b vs, valueAt kvs c = some (.ref t) ∧ IsTup h t (List.toArray [Value.str (W c).1 tn, Value.ref b]) ∧ IsTup h b (List.toArray vs) ∧ StrsAre vs (W c).2
theorem WRep.keep {w : World} {h h' : Heap} {wa : Addr} {W : Signs} {cs : List Int} (R : WRep w h wa W cs) (k : ∀ b o, h.get? b = some o → h'.get? b = some o) : WRep w h' wa W cs := by
  obtain ⟨kvs, a, b, c⟩ := R
  refine ⟨kvs, a.keep k, b, fun e he => ?_⟩
  obtain ⟨t, tn, b, vs, h1, h2, h3, h4⟩ := c e he
  exact ⟨t, tn, b, vs, h1, h2.keeps k, h3.keeps k, h4⟩
def NoQ (W : Signs) (cs : List Int) : Prop := ∀ c ∈ cs, ∀ y ∈ nmOf W c, y ≠ Str.ofString "Qaai"

theorem fresh_of {h g h' : Heap} {L a : Addr} {o : Obj} {news : List (Addr × Obj)} (kg : ∀ b o, h.get? b = some o → g.get? b = some o) (N : News g L h' ((a, o) :: news)) : h.get? a = none := by
  cases q : h.get? a with
  | none => rfl
  | some o' => exact absurd ((N _ (.head _)).2.2.symm.trans (kg _ _ q)) (by simp)

section
variable {w : World} {mg mb : Str → Option Value} {mean : ExcName → Option Value} {loose : List Str} {h₀ : Heap} {dp un : Nat} {fr : Option (List Env)} {gd : Option (List Code)} {s : Shared} {Q : Value → Shared → Prop} {E : Value → Shared → Prop}

theorem law_own_ok {wa : Addr} {W : Signs} {cs : List Int} {c : Int} {tx : Tok}
    (kp : ∀ b o, h₀.get? b = some o → s.heap.get? b = some o) (X : (hd.heap_1 w.params).In h₀) (T : Top hVw loose mean mg mb h₀) (hdp : dp ≤ 900) (hun : un ≤ 9000)
    (R : WRep w h₀ wa W cs) (hQ : NoQ W cs) (hc : c ∈ cs)
    (retN : ∀ h' tk', KeepBut [] s.heap h' → CommonAt W c → Q .none { s with heap := h', toks := tk' })
    (retB : ∀ a vs h' tk', KeepBut [] s.heap h' → ¬ CommonAt W c → IsTup h₀ a (List.toArray vs) → StrsAre vs (nmOf W c) → Q (.ref a) { s with heap := h', toks := tk' })
    (retT : ∀ a vs h' tk', KeepBut [] s.heap h' → ¬ CommonAt W c → s.heap.get? a = none → h'.get? a = some (tupOf (List.toArray vs)) → StrsAre vs (nmOf W c) → Q (.ref a) { s with heap := h', toks := tk' }) :
    wpAny (model PR w) (AX dp un fr gd) (call (.ref 213) [.ref wa, .int c tx]) Q E s := by
  refine wpAny_call ?_
  refine' code_fn (news := []) (binds := [(Str.ofString "w", .ref wa), (Str.ofString "code", .int c tx)]) ?k1 ?k2 ?k3 ?k4 ?k6 ?k7 ?k8 ?k9 ?kB ?_ ?c2 ?c3 ?c4 ?c5
  case k1 => exact kp
  case k2 => exact X
  case k3 => exact T
  case k4 => (intro q hq; exact nomatch hq)
  case k6 => k_is
  case k7 => k_is
  case k8 => (simp only [recursionLimit] at *; omega)
  case k9 => first | exact BindsTo.of_eq rfl | exact binds_K (X.keeps kp) rfl (by k_is) rfl rfl rfl
  case kB => exact locs rfl
  case c2 => exact rfl
  case c3 => exact rfl
  case c4 => exact rfl
  case c5 => decide
  intro g L' h₁ hg hkg hgs F N X' T'
  dsimp only
  k_fold
  have kg : ∀ b o, s.heap.get? b = some o → g.get? b = some o := fun b o e => hkg b o e (fun h => nomatch h)
  obtain ⟨kvs, hD, lo, hcs⟩ := R
  obtain ⟨t, tn, b, vs, hv, hT, hB, hS⟩ := hcs c hc
  k_steps
  show wpAny _ _ _ _ _ _
  refine item_dictO ((hD.keep hg).keep F.keep) (intKind_is PR w c tx) hv ?_ (by with_unfolding_all rfl)
  refine assign_tupK F N (items := [Value.str (W c).1 tn, Value.ref b]) ((hT.keeps hg).keeps F.keep) rfl rfl rfl (fun h' F1 N1 => ?_)
  k_steps
  show wpAny _ _ _ _ _ _
  rename Fr _ _ _ _ => F2
  rename News _ _ _ _ => N2
  refine ne_tups ((hB.keeps hg).keeps F2.keep) ⟨_, (N2 _ (.head _)).1, rfl, _, rfl⟩ hS .nil (by units_room) ?_
  have fin : ∀ (ss : List Str), ss = nmOf W c → (¬ (Str.ofString "Zyyy" ∈ ss ∨ Str.ofString "Zinh" ∈ ss) → ¬ CommonAt W c) ∧ (Str.ofString "Zyyy" ∈ ss ∨ Str.ofString "Zinh" ∈ ss → CommonAt W c) := by
    rintro ss rfl
    constructor
    · rintro h ⟨y, hy, e⟩
      unfold isCommon at e
      simp only [Bool.or_eq_true, beq_iff_eq] at e
      rcases e with rfl | rfl | rfl
      · exact h (.inl hy)
      · exact h (.inr hy)
      · exact hQ c hc _ hy rfl
    · rintro (h | h)
      · exact ⟨_, h, by decide⟩
      · exact ⟨_, h, by decide⟩
  by_cases hs0 : (W c).2 = []
  · have hnm : [(W c).1] = nmOf W c := by unfold nmOf; rw [if_pos hs0]
    rw [decide_eq_true hs0, Bool.not_true]
    k_steps
    show wpAny _ _ _ _ _ _
    rename Fr _ _ _ _ => F3
    rename News _ _ _ _ => N3
    refine in_tup_mem (vs := [Value.str (W c).1 tn]) ⟨_, (N3 _ (.head _)).1, rfl, _, rfl⟩ (.cons _ _ .nil) ?_
    by_cases hz : Str.ofString "Zyyy" ∈ [(W c).1]
    · rw [decide_eq_true hz]
      k_steps
      (try dsimp only)
      exact retN _ _ (fun e o he _ => F3.keep _ _ (kg _ _ he)) ((fin _ hnm).2 (.inl hz))
    · rw [decide_eq_false hz]
      k_steps
      show wpAny _ _ _ _ _ _
      refine in_tup_mem (vs := [Value.str (W c).1 tn]) ⟨_, (N3 _ (.head _)).1, rfl, _, rfl⟩ (.cons _ _ .nil) ?_
      by_cases hz2 : Str.ofString "Zinh" ∈ [(W c).1]
      · rw [decide_eq_true hz2]
        k_steps
        (try dsimp only)
        exact retN _ _ (fun e o he _ => F3.keep _ _ (kg _ _ he)) ((fin _ hnm).2 (.inr hz2))
      · rw [decide_eq_false hz2]
        k_steps
        (try dsimp only)
        exact retT _ _ _ _ (fun e o he _ => F3.keep _ _ (kg _ _ he)) ((fin _ hnm).1 (fun h => h.elim hz hz2)) (fresh_of kg N3) (N3 _ (.head _)).1 (by rw [← hnm]; exact .cons _ _ .nil)
  · have hnm : (W c).2 = nmOf W c := by unfold nmOf; rw [if_neg hs0]
    rw [decide_eq_false hs0, Bool.not_false]
    k_steps
    show wpAny _ _ _ _ _ _
    rename Fr _ _ _ _ => F3
    rename News _ _ _ _ => N3
    refine in_tup_mem (vs := vs) ((hB.keeps hg).keeps F3.keep) hS ?_
    by_cases hz : Str.ofString "Zyyy" ∈ (W c).2
    · rw [decide_eq_true hz]
      k_steps
      (try dsimp only)
      exact retN _ _ (fun e o he _ => F3.keep _ _ (kg _ _ he)) ((fin _ hnm).2 (.inl hz))
    · rw [decide_eq_false hz]
      k_steps
      show wpAny _ _ _ _ _ _
      refine in_tup_mem (vs := vs) ((hB.keeps hg).keeps F3.keep) hS ?_
      by_cases hz2 : Str.ofString "Zinh" ∈ (W c).2
      · rw [decide_eq_true hz2]
        k_steps
        (try dsimp only)
        exact retN _ _ (fun e o he _ => F3.keep _ _ (kg _ _ he)) ((fin _ hnm).2 (.inr hz2))
      · rw [decide_eq_false hz2]
        k_steps
        (try dsimp only)
        exact retB b vs _ _ (fun e o he _ => F3.keep _ _ (kg _ _ he)) ((fin _ hnm).1 (fun h => h.elim hz hz2)) hB (by rw [← hnm]; exact hS)
end
end

section
theorem plain_update_loop : plainId "dict.update.loop" = true := by decide +kernel
theorem entry_update_loop : entryFor table "dict.update.loop" = some Builtin.«dict.update.loop» := entryFor_of_fast (by kernel_rfl)
theorem list_no_keys : typeLookup (.type "list") "keys" = pure none := by rw [typeLookup_type, builtinLookup_eq_fast]; kernel_rfl

inductive PairsAre (h : Heap) : List Value → List (Str × Value) → Prop
  | nil : PairsAre h [] []
  | cons {a : Addr} {x : Str} {t : Tok} {v : Value} {vs : List Value} {kvs : List (Str × Value)} : IsTup h a (List.toArray [Value.str x t, v]) → PairsAre h vs kvs → PairsAre h (.ref a :: vs) ((x, v) :: kvs)
theorem PairsAre.length {h : Heap} {vs : List Value} {kvs : List (Str × Value)} (x : PairsAre h vs kvs) : vs.length = kvs.length := by
  induction x with
  | nil => rfl
  | cons _ _ ih => simp [ih]
theorem PairsAre.get {h : Heap} {vs : List Value} {kvs : List (Str × Value)} (x : PairsAre h vs kvs) : ∀ {i : Nat} {u : Value}, vs[i]? = some u → ∃ a y t v, u = .ref a ∧ IsTup h a (List.toArray [Value.str y t, v]) ∧ kvs[i]? = some (y, v) := by
  induction x with
  | nil => intro i u e; simp at e
  | cons y _ ih =>
    intro i u e
    cases i with
    | zero => simp at e; subst e; exact ⟨_, _, _, _, rfl, y, rfl⟩
    | succ i => exact ih (by simpa using e)

section
variable {prog : Program} {w : World} {A : Around} {E : Value → Shared → Prop} {s : Shared}

theorem getq_list_keys {a : Addr} {xs : Array Value} {k : Nat} {Q : Option Value → Shared → Prop} (hx : s.heap.get? a = some (listOf xs k)) (hA : A.handled = none)
    (h : ∀ h' tk, (∀ b o, s.heap.get? b = some o → h'.get? b = some o) → Q none { s with heap := h', toks := tk }) : wpAny (model prog w) A (getAttr? (.ref a) (Str.ofString "keys")) Q E s := by
  obtain ⟨hp, g, d, tk, os⟩ := s
  have hT : ∀ tk', (⟨hp, g, d, tk', os⟩ : Shared).TypeIs (.ref a) "list" := fun _ => ⟨_, hx, rfl⟩
  have f1 := sub_AttributeError
  have f3 := PySem.F.slot_list_getattribute.lookup
  have f4 := PySem.F.slot_list_getattribute.bind (.ref a)
  have f5 := am_list_getattr_none
  have hmiss := list_no_keys
  have hname : (["__module__", "__name__", "__qualname__", "__doc__", "__annotations__"] : List Str).contains (Str.ofString "keys") = false := by decide
  unfold getAttr? getAttrBy?
  refine wpAny_bind (wpAny_mkText ?_)
  refine wpAny_bind ?_
  refine wpAny_attempt ?_
  unfold getAttrBy
  repeat (any_goals (first | assumption | exact hT _ | ((with_reducible show wpAny _ _ (call (Value.builtin "list.__getattribute__") _ _) _ _ _); refine call_meets PySem.F.slot_list_getattribute (hT _) am_entry_list_getattribute (PySem.F.args_list_getattribute_2 _ _) (meets_getattribute_miss_list a xs k #[] (Str.ofString "keys") _ hmiss hname) ⟨hx, hA, fun h' tk' e hx' => ?_⟩) | wp_step))
  obtain ⟨t', u', he⟩ := hx'.there
  show wpAny _ _ (getattributeRaised _ _ _ _ _ _ _) _ _ _
  unfold getattributeRaised
  repeat (any_goals (first | assumption | wp_step))
  exact h _ _ hx'.keeps

theorem codeAny_update_loop {R : Result → Shared → Prop} {I d : Addr} {fp : List Addr} {vs : List Value} {ps : List (Str × Value)} {St : Nat → Heap → Prop} {h₁ : Heap}
    (W : Walks prog w A.in1 I fp [I] (List.toArray vs).size (fun i v => (List.toArray vs)[i]? = some v) St) (hdf : d ∉ fp) (hz : vs.length ≤ 1000) (hp : PairsAre h₁ vs ps) (hd0 : h₁.get? d = none) (hI0 : h₁.get? I = none) (hdI : d ≠ I) :
    ∀ (k i : Nat) (j : Int) (s : Shared) (kvs : List (Str × Value)), vs.length - i = k → i ≤ vs.length → St i s.heap → s.heap.DictOf (PySem.strKind prog w) d kvs → kvs.length ≤ i → (∀ b o, h₁.get? b = some o → s.heap.get? b = some o) →
      (∀ h' tk, h'.DictOf (PySem.strKind prog w) d ((ps.drop i).foldl (fun m q => stored m q.1 q.2) kvs) → (∀ b o, b ≠ d → b ≠ I → s.heap.get? b = some o → h'.get? b = some o) → R (.ok (.ret .none)) { s with heap := h', toks := tk }) →
      codeAny (model prog w) A (.builtin "dict.update.loop" ⟨[.ref d, .ref I, .int j 0, .none], []⟩) R s := by
  intro k
  induction k with
  | zero =>
    intro i j s kvs hk hi hst hD hl h1 hR
    have hin : i = vs.length := by omega
    subst hin
    refine codeAny_builtin entry_update_loop ?_
    rw [Around.under_plainId plain_update_loop _]
    show wpAny _ A.in1 (pyNext (.ref I) >>= _) _ _ s
    refine wpAny_bind (W.done s _ _ (by simpa using hst) fun h' tk hk => ?_)
    have hps : ps.drop vs.length = [] := by rw [hp.length]; exact List.drop_length
    rw [hps] at hR
    show wpAny _ _ (pure () >>= _) _ _ _
    refine wpAny_bind (wpAny_pure ?_)
    refine wpAny_pure (hR h' tk ?_ fun b o _ hb e => hk b o (by simpa using hb) e)
    exact hD.at fun o e => hk _ o (by simpa using hdI) e
  | succ k ih =>
    intro i j s kvs hk hi hst hD hl h1 hR
    have hlt : i < vs.length := by omega
    refine codeAny_builtin entry_update_loop ?_
    rw [Around.under_plainId plain_update_loop _]
    show wpAny _ A.in1 (pyNext (.ref I) >>= _) _ _ s
    refine wpAny_bind (W.item i s _ _ (by simpa using hlt) hst fun v h' tk hP hst' hm => ?_)
    replace hP : vs[i]? = some v := by simpa using hP
    obtain ⟨a, y, t, x, rfl, hT, hq⟩ := hp.get hP
    have h2 : ∀ b o, h₁.get? b = some o → h'.get? b = some o := fun b o e => hm b o (by simp; rintro rfl; rw [hI0] at e; cases e) (h1 b o e)
    have hD' : h'.DictOf (PySem.strKind prog w) d kvs := hD.at fun o e => hm _ o (by simpa using hdI) e
    obtain ⟨ot, hot, hcl, n, hdat⟩ := hT.keeps h2
    dsimp only
    refine wpAny_bind (wpAny_holding ?_)
    refine wpAny_bind (wpAny_tryCatch ?_)
    unfold Builtin.Dict.pairItems
    refine wpAny_bind (wpAny_typeOf (T := "tuple") ⟨_, hot, hcl⟩ ?_)
    rw [if_pos (by decide)]
    refine wpAny_bind (wpAny_seqItems hot hdat (wpAny_pure ?_))
    dsimp only [Option.getD_some]
    refine wpAny_holding (wpAny_dictSet_pairs (hsz := by rw [sizeLine_eq]; omega) (strKind_is prog w y t) hD' fun h'' hD'' hs'' => ?_)
    have h3 : ∀ b o, b ≠ d → h'.get? b = some o → h''.get? b = some o := fun b o hb e => (hs''.2 b hb).trans e
    refine wpAny_pure ⟨plainId_quiet plain_update_loop _, ih (i + 1) (j + 1) _ _ (by omega) hlt (W.frame _ h' _ hst' fun b hb o e => h3 b o (fun q => hdf (q ▸ hb)) e) hD'' (Nat.le_trans (stored_length_le _ _ _) (by omega)) (fun b o e => h3 b o (by rintro rfl; rw [hd0] at e; cases e) (h2 b o e)) fun h''' tk' hd''' hk''' => ?_⟩
    refine hR h''' tk' ?_ fun b o hb hI e => hk''' b o hb hI (h3 b o hb (hm b o (by simpa using hI) e))
    rw [List.drop_eq_getElem_cons (by rw [← hp.length]; exact hlt)]
    rw [List.foldl_cons]
    rw [List.getElem?_eq_getElem (by rw [← hp.length]; exact hlt)] at hq
    rw [Option.some.inj hq]
    exact hd'''

theorem dict_pairsK {h₀ : Heap} {L l : Addr} {m : Str → Option Value} {news : List (Addr × Obj)} {vs : List Value} {c : Nat} {ps : List (Str × Value)} {Q : Value → Shared → Prop}
    (F : Fr h₀ L s.heap m) (N : News h₀ L s.heap news) (hbig : sysModules < h₀.objs.size) (hh : A.handled = none)
    (hl : s.heap.get? l = some (listOf (List.toArray vs) c)) (hp : PairsAre s.heap vs ps) (hz : vs.length ≤ 1000)
    (h : ∀ D o h' tk, Fr h₀ L h' m → News h₀ L h' ((D, o) :: news) → (D == sysModules) = false → o.IsDictOf (PySem.strKind prog w) (ps.foldl (fun m q => stored m q.1 q.2) []) → Q (.ref D) { s with heap := h', toks := tk }) :
    wpAny (model prog w) A (call (.type "dict") [.ref l]) Q E s := by
  refine callType_codes (Q₁ := fun obj s₁ => obj = .ref s.heap.objs.size ∧ s₁ = { s with heap := s.heap.push { cls := .type "dict", data := .dict #[] } }) PySem.F.kt_called_dict (PySem.F.kt_typeCall_dict_1 _) PySem.F.entry_dict_init (kt_code_dict_new _ ⟨rfl, rfl⟩) ?_
  rintro obj s₁ ⟨rfl, rfl⟩
  have hnew : (s.heap.push { cls := .type "dict", data := .dict #[] }).DictOf (PySem.strKind prog w) s.heap.objs.size [] := Heap.DictOf.new s.heap
  have hl1 : (s.heap.push { cls := .type "dict", data := .dict #[] }).get? l = some (listOf (List.toArray vs) c) := Heap.get?_push_of_some _ hl
  have hls : l < s.heap.objs.size := Heap.lt_size hl
  refine ⟨hnew.typeIs, PySem.F.args_dict_init_2 _ _, ?_⟩
  unfold Builtin.«dict.__init__»
  refine wpAny_bind ?_
  unfold Builtin.Dict.selfAndRest
  refine wpAny_bind (wpAny_notOrdered_dict hnew.typeIs ?_)
  show wpAny _ _ (pure (s.heap.objs.size, [Value.ref l])) _ _ _
  refine wpAny_pure ?_
  show wpAny _ _ (Builtin.Dict.updateFrom "dict.__init__" s.heap.objs.size (.ref l) [] .none) _ _ _
  unfold Builtin.Dict.updateFrom
  refine wpAny_bind (wpAny_typeOf (T := "list") ⟨_, hl1, rfl⟩ ?_)
  rw [if_pos (by decide)]
  refine wpAny_bind (getq_list_keys hl1 hh fun h' tk hk => ?_)
  simp only [Option.isNone_none, if_true]
  refine wpAny_bind (wpAny_rule ?_)
  have hsz : s.heap.objs.size < h'.objs.size := Heap.lt_size (hk _ _ (Heap.get?_push_size _ rfl))
  have hl2 : h'.IsList l (List.toArray vs) := ⟨_, hk _ _ hl1, rfl, c, rfl⟩
  refine wpAny_bind (wpAny_pyIter_list hl2 ?_)
  have hlI : l < h'.objs.size := Heap.lt_size (hk _ _ hl1)
  have up : ∀ b o, s.heap.get? b = some o → (h'.push { cls := .type "list_iterator", data := .fields #[.ref l, .int 0 0] }).get? b = some o := fun b o e => Heap.get?_push_of_some _ (hk _ _ (Heap.get?_push_of_some _ e))
  have hIs : h'.objs.size ≠ s.heap.objs.size := Nat.ne_of_gt hsz
  refine wpAny_pure ⟨plainId_quiet plain_update_loop _, ?_⟩
  show codeAny _ _ (.builtin "dict.update.loop" ⟨[.ref s.heap.objs.size, .ref h'.objs.size, .int 0 0, .none], []⟩) _ { s with heap := h'.push { cls := .type "list_iterator", data := .fields #[.ref l, .int 0 0] }, toks := tk }
  refine codeAny_update_loop (h₁ := s.heap) (W := Walks.list (A := A.in1.in1) (prog := prog) (w := w) hh h'.objs.size l (Nat.ne_of_lt hlI) (List.toArray vs)) ?_ hz hp (Heap.get?_none_of_le (Nat.le_refl _)) (Heap.get?_none_of_le (Nat.le_of_lt hsz)) (Ne.symm hIs) _ 0 0 _ [] rfl (Nat.zero_le _)
    ⟨⟨_, Heap.get?_push_size _ rfl, rfl, rfl⟩, hl2.at fun o e => Heap.get?_push_of_some _ e⟩ ?_ (Nat.zero_le _) up fun h'' tk' hD hk' => ?_
  · simp; exact ⟨Ne.symm hIs, Nat.ne_of_gt hls⟩
  · exact hnew.at fun o e => Heap.get?_push_of_some _ (hk _ _ e)
  · have up2 : ∀ b o, s.heap.get? b = some o → h''.get? b = some o := fun b o e => hk' b o (Nat.ne_of_lt (Heap.lt_size e)) (Nat.ne_of_lt (Nat.lt_trans (Heap.lt_size e) hsz)) (up b o e)
    obtain ⟨o', ho', hd'⟩ := Heap.dictOf_iff.mp hD
    have F' : Fr h₀ L h'' m := F.keeps up2
    have N' : News h₀ L h'' news := fun p hp => ⟨up2 _ _ (N p hp).1, (N p hp).2⟩
    exact ⟨rfl, h s.heap.objs.size o' h'' tk' F' (News.made F N' ho' (Heap.get?_none_of_le (Nat.le_refl _))) (F.notModules hbig) hd'⟩

theorem strs_keys : ∀ {vs : List Value} {ss : List Str}, vs.length = ss.length → (∀ (j : Nat) (v : Value), vs[j]? = some v → ∃ k, ss[j]? = some k ∧ (PySem.strKind prog w).is k v = true) → StrsAre vs ss := by
  intro vs
  induction vs with
  | nil => intro ss hl _; cases ss with
    | nil => exact .nil
    | cons _ _ => simp at hl
  | cons v vs ih =>
    intro ss hl h
    cases ss with
    | nil => simp at hl
    | cons x ss =>
      obtain ⟨k, e, hk⟩ := h 0 v rfl
      simp at e; subst e
      obtain ⟨t, rfl⟩ : ∃ t, v = .str x t := by
        cases v <;> first | (exact Bool.noConfusion (show false = true from hk)) | skip
        rename_i y t
        exact ⟨t, by rw [show y = x from by simpa [PySem.strKind, Value.isStrOf] using hk]⟩
      exact .cons _ _ (ih (by simpa using hl) fun j u hj => h (j + 1) u (by simpa using hj))

theorem sorted_dictK {h₀ : Heap} {L d : Addr} {m : Str → Option Value} {news : List (Addr × Obj)} {kvs : List (Str × Value)} {Q : Value → Shared → Prop}
    (F : Fr h₀ L s.heap m) (N : News h₀ L s.heap news) (hh : A.handled = none) (lo : (d == sysModules) = false) (hd : s.heap.DictOf (PySem.strKind prog w) d kvs) (h64 : kvs.length < 64)
    (h : ∀ D h' tk vs' ss' c, Fr h₀ L h' m → News h₀ L h' ((D, listOf (List.toArray vs') c) :: news) → StrsAre vs' ss' → ss'.Perm (kvs.map (·.1)) → Canon ss' → Q (.ref D) { s with heap := h', toks := tk }) :
    wpAny (model prog w) A (call (.builtin "sorted") [.ref d]) Q E s := by
  obtain ⟨ep, hat⟩ := hd.dictAt
  have hnd : (kvs.map (·.1)).Nodup := let ⟨_, _, _, _, _, _, _, _, hn⟩ := hd; hn
  refine kdu_sorted (kdl_dict (knd := PySem.strKind prog w) (kvs := kvs) (ep := ep) lo) hh F N hat (by rw [sizeLine_eq]; omega) fun B h' tk vs F' N' l1 hl hv => ?_
  have hS : StrsAre vs (kvs.map (·.1)) := strs_keys (prog := prog) (w := w) (by simpa using hl) fun j v hj => by
    obtain ⟨k, x, hx, hk⟩ := hv j v hj
    exact ⟨k, by rw [List.getElem?_map, hx]; rfl, hk⟩
  have hoL := (N' _ (.head _)).1
  refine wpAny_call_entry slot_list_sort ⟨_, hoL, rfl⟩ entry_list_sort (list_sort_treeK strKind_oneLt (vs := vs) (n := 0) hoL hS.keysOf (fun v₁ v₂ rest e => keyKind_strs (by rw [← e]; exact hS)) (by rw [hl]; exact h64) fun st' hp hs => ⟨_, rfl, ?_⟩) (args_list_sort _)
  obtain ⟨ss', h1, h2, h3⟩ := sorted_out_str hS hp hs
  obtain ⟨e, he⟩ := sortedHeap_at (vs := vs) (out := (arrOf st').map (·.2)) hoL
  have hN : News h₀ L h' news := fun p hp => N' p (.tail _ hp)
  have old : ∀ b, b ≠ B → b < h'.objs.size → (sortedHeap h' B vs ((arrOf st').map (·.2))).get? b = h'.get? b := fun b hb hlt => sortedHeap_old hb hlt
  obtain ⟨oL, es, ep', hoLL, r⟩ := F'.ns
  refine h B _ tk ((arrOf st').map (·.2)).toList ss' e ⟨⟨oL, es, ep', (old _ (Ne.symm (N' _ (.head _)).2.1) (Heap.lt_size hoLL)).trans hoLL, r⟩, fun b o q => (old b (by rintro rfl; rw [(N' _ (.head _)).2.2] at q; cases q) (Heap.lt_size (F'.keep _ _ q))).trans (F'.keep _ _ q), F'.above⟩ ?_ h1 h2 ⟨h3, h2.nodup_iff.mpr hnd⟩
  intro p hp
  rcases List.mem_cons.mp hp with rfl | hp
  · exact ⟨by rw [Array.toArray_toList]; exact he, (N' _ (.head _)).2⟩
  · exact ⟨(old _ (Nat.ne_of_lt (l1 p hp)) (Heap.lt_size (hN p hp).1)).trans (hN p hp).1, (hN p hp).2⟩
end

/-- the keys of what is stored one after the other -/
theorem stored_keys {kvs : List (Str × Value)} {k : Str} {v : Value} (y : Str) : y ∈ (stored kvs k v).map (·.1) ↔ y ∈ kvs.map (·.1) ∨ y = k := by
  unfold stored
  split
  · rename_i h
    obtain ⟨q, hq, e⟩ := List.any_eq_true.mp h
    have e' : q.1 = k := by simpa using e
    have : (kvs.map (fun kv => if kv.1 = k then (kv.1, v) else kv)).map (·.1) = kvs.map (·.1) := by
      rw [List.map_map]; apply List.map_congr_left; intro a _; simp only [Function.comp]; split <;> rfl
    rw [this]
    constructor
    · exact .inl
    · rintro (h | rfl)
      · exact h
      · exact List.mem_map.mpr ⟨q, hq, e'⟩
  · simp
theorem foldl_keys : ∀ (ps kvs : List (Str × Value)) (y : Str), y ∈ (ps.foldl (fun m q => stored m q.1 q.2) kvs).map (·.1) ↔ y ∈ kvs.map (·.1) ∨ y ∈ ps.map (·.1)
  | [], kvs, y => by simp
  | p :: ps, kvs, y => by
    rw [List.foldl_cons, foldl_keys ps, stored_keys]
    simp only [List.map_cons, List.mem_cons]
    exact or_assoc
theorem foldl_len : ∀ (ps kvs : List (Str × Value)), (ps.foldl (fun m q => stored m q.1 q.2) kvs).length ≤ kvs.length + ps.length
  | [], kvs => by simp
  | p :: ps, kvs => by
    rw [List.foldl_cons]
    have := foldl_len ps (stored kvs p.1 p.2)
    have := stored_length_le kvs p.1 p.2
    simp only [List.length_cons]
    omega
end

section
section
variable {prog : Program} {w : World} {A : Around} {E : Value → Shared → Prop} {s : Shared}

/-- what is left of a comprehension when its iterable is there -/
def CompReady (prog : Program) (w : World) (A : Around) (E : Value → Shared → Prop) (use : Option (Value → Sem Unit)) (Q : Value → Shared → Prop) (env : Env) (scope : Scope) (cl : List (Str × Addr)) (elt : PySem.Expr) (x : Str) (px : Pos) (iter : PySem.Expr) (pos : Pos) (xv : Value) (s₁ : Shared) : Prop :=
  wpAny (model prog w) A (pyIter xv) (fun it s₂ => wpAny (model prog w) A (newList []) (fun acc s₃ => wpAny (model prog w) A (newFunctionEnv scope env.globals cl [] env.qual none .none (some env)) (fun cenv s₄ =>
    codeAny (model prog w) A (.compStart (.ListComp elt [⟨.Name x px, iter, [], 0⟩] scope pos) 0 it acc { cenv with scope := relabel scope env }) (compPost (model prog w) A E use Q acc cenv.locals) s₄) E s₃) E s₂) E s₁

theorem comp_enter {elt iter : PySem.Expr} {x : Str} {px pos : Pos} {scope : Scope} {cl : List (Str × Addr)} {env : Env} {Q : Value → Shared → Prop}
    (hclos : closureFor scope env = pure cl) (hkind : scope.kind = .function) (hnames : ∀ y ∈ scope.names, y.2 = .local → scope.names.lookup y.1 = some .local)
    (h : wpAny (model prog w) A (eval iter env) (CompReady prog w A E none Q env scope cl elt x px iter pos) E s)
    (hs : ∀ x, foldedSetIterable iter env x = pure x := by intro _; rfl) :
    wpAny (model prog w) A (eval (.ListComp elt [⟨.Name x px, iter, [], 0⟩] scope pos) env) Q E s := by
  rw [eval_ListComp]
  exact wpAny_comprehension_free (use := none) rfl hs hclos hkind hnames h

theorem comp_enterA {elt iter : PySem.Expr} {x y : Str} {px py pos spos : Pos} {scope : Scope} {cl : List (Str × Addr)} {env : Env} {Q : Flow → Shared → Prop}
    (hsw : swapsWith (.ListComp elt [⟨.Name x px, iter, [], 0⟩] scope pos) (some (.Name y py)) spos.line env = pure true)
    (hclos : closureFor scope env = pure cl) (hkind : scope.kind = .function) (hnames : ∀ y ∈ scope.names, y.2 = .local → scope.names.lookup y.1 = some .local)
    (h : wpAny (model prog w) A (eval iter env) (CompReady prog w A E (some (assign (.Name y py) env)) (fun _ s' => Q .next s') env scope cl elt x px iter pos) E s)
    (hs : ∀ x, foldedSetIterable iter env x = pure x := by intro _; rfl) :
    wpAny (model prog w) A (exec (.Assign [.Name y py] (.ListComp elt [⟨.Name x px, iter, [], 0⟩] scope pos) spos) env) Q E s := by
  rw [exec_Assign_Name_used _ _ _ _ hsw]
  refine wpAny_bind (wpAny_standAt (wpAny_bind ?_))
  show wpAny _ A (do let _ ← comprehension (.ListComp elt [⟨.Name x px, iter, [], 0⟩] scope pos) scope env _ (newList []) false (eval iter env) (some (assign (.Name y py) env))) _ _ s
  exact wpAny_bind (wpAny_mono (wpAny_comprehension_free (use := some (assign (.Name y py) env)) (Q := fun _ s' => Q .next s') rfl hs hclos hkind hnames h) (fun _ s' hq => wpAny_pure (wpAny_pure hq)) fun _ _ e => e)

/-- the state at a turn of a comprehension -/
def TurnAt (B : Heap) (C D I : Addr) (it : Obj) (out : List Value) (c : Nat) (news : List (Addr × Obj)) (h : Heap) (m : Str → Option Value) : Prop :=
  Fr B C h m ∧ News B C h ((D, listOf (List.toArray out) c) :: (I, it) :: news) ∧ (∀ p ∈ news, p.1 ≠ D) ∧ (∀ p ∈ news, p.1 ≠ I)

theorem comp_own {use : Option (Value → Sem Unit)} {elt iter : PySem.Expr} {x : Str} {px pos : Pos} {scope : Scope} {cl : List (Str × Addr)} {env : Env} {Q : Value → Shared → Prop} {s₁ : Shared} {xv : Value} {oI : Obj} {fp : List Addr} {n : Nat} {P : Nat → Value → Prop} {St : Nat → Heap → Prop}
    (ds : List (Addr × Obj)) (Ob : Nat → Obj → Prop) (J : Nat → List Value → List (Addr × Obj) → Prop)
    (hcell : ∀ y ∈ scope.names, y.2 ≠ .cell) (hkind : scope.kind = .function) (hx : scope.names.lookup x = some .local)
    (hit : ∀ Q' : Value → Shared → Prop, Q' (.ref s₁.heap.objs.size) { s₁ with heap := s₁.heap.push oI } → wpAny (model prog w) A (pyIter xv) Q' E s₁)
    (W : Walks prog w A s₁.heap.objs.size fp [s₁.heap.objs.size] n P St) (hn : n ≤ 1000) (hst0 : St 0 (s₁.heap.push oI)) (hfp : ∀ b ∈ fp, b ≤ s₁.heap.objs.size)
    (hds : ∀ p ∈ ds, s₁.heap.get? p.1 = some p.2)
    (hob : ∀ i h, St i h → ∃ it, Ob i it ∧ h.get? s₁.heap.objs.size = some it)
    (hst : ∀ i it h, Ob i it → h.get? s₁.heap.objs.size = some it → (∀ b o, (hideAll s₁.heap (ds.map (·.1))).get? b = some o → h.get? b = some o) → St i h)
    (hJ0 : J 0 [] ds) (hJl : ∀ i out news, J i out news → out.length ≤ i)
    (turn : ∀ C D it i v out c news h tk m, i < n → P i v → J i out news → TurnAt (hideAll s₁.heap (ds.map (·.1))) C D s₁.heap.objs.size it out c news h m → m x = some v →
      wpAny (model prog w) A (eval elt (compEnvC scope cl C env)) (fun y s' => ∃ h' tk' m' news', s' = { s₁ with heap := h', toks := tk' } ∧ TurnAt (hideAll s₁.heap (ds.map (·.1))) C D s₁.heap.objs.size it out c news' h' m' ∧ J (i + 1) (out ++ [y]) news') (fun _ _ => False) { s₁ with heap := h, toks := tk })
    (done : ∀ D C h' tk m' out c news, J n out news → KeepBut (ds.map (·.1)) s₁.heap h' → s₁.heap.get? D = none → s₁.heap.get? C = none → D ≠ C → h'.Ns C m' → h'.get? D = some (listOf (List.toArray out) c) → (∀ p ∈ news, h'.get? p.1 = some p.2) → (∀ p ∈ news, p.1 ≠ D ∧ p.1 ≠ C) →
      compPost (model prog w) A E use Q (.ref D) C (.ok .next) { s₁ with heap := h', toks := tk }) :
    CompReady prog w A E use Q env scope cl elt x px iter pos xv s₁ := by
  refine hit _ ?_
  obtain ⟨H0, gens, drawn, tk0, os⟩ := s₁
  dsimp only at *
  generalize hI : H0.objs.size = I at *
  generalize hB : hideAll H0 (ds.map (·.1)) = B at *
  have B0 : ∀ b o, B.get? b = some o → H0.get? b = some o := fun b o e => of_hideAll _ (hB ▸ e)
  have BI : B.get? I = none := by
    cases q : B.get? I with
    | none => rfl
    | some o => exact absurd (Heap.lt_size (B0 _ _ q)) (by rw [hI]; exact Nat.lt_irrefl _)
  have Bsz : B.objs.size = I := by rw [← hB, hideAll_size, hI]
  have Bds : ∀ p ∈ ds, B.get? p.1 = none := fun p hp => by rw [← hB]; exact hideAll_none _ (List.mem_map_of_mem hp)
  have dsI : ∀ p ∈ ds, p.1 < I := fun p hp => by rw [← hI]; exact Heap.lt_size (hds p hp)
  refine wpAny_newObj_type (wpAny_newFunctionEnv hcell (by intro y hy; simp at hy) (fun h₁ hns₁ hsb₁ => ?_) hkind)
  dsimp only at hns₁ hsb₁ ⊢
  have hs1 : (H0.push oI).objs.size = I + 1 := by rw [Heap.size_push, hI]
  generalize hH2 : (H0.push oI).push { cls := .type "list", dict := none, data := .seq ([] : List Value).toArray } = H2 at hns₁ hsb₁ ⊢
  have hC : H2.objs.size = I + 2 := by rw [← hH2, Heap.size_push, hs1]
  rw [hs1]
  generalize hD : I + 1 = D at *
  generalize hCC : H2.objs.size = C at *
  have hIC : I ≠ C := by omega
  have hDC : D ≠ C := by omega
  have hDI : D ≠ I := by omega
  have hIC' : I < C := by omega
  have hID' : I < D := by omega
  have up : ∀ b o, b < I → H0.get? b = some o → h₁.get? b = some o := fun b o hb e => hsb₁.extBut b o (Nat.ne_of_lt (Nat.lt_trans hb hIC')) (Heap.get?_push_of_some _ (hH2 ▸ Heap.get?_push_of_some _ (Heap.get?_push_of_some _ e)))
  have upI : h₁.get? I = some oI ∨ True := .inr trivial
  have stI : ∀ o, (H0.push oI).get? I = some o → h₁.get? I = some o := fun o e => hsb₁.extBut _ _ hIC (Heap.get?_push_of_some _ (hH2 ▸ Heap.get?_push_of_some _ e))
  obtain ⟨it0, hOb0, hit0⟩ := hob 0 _ hst0
  have hgI : h₁.get? I = some it0 := stI _ hit0
  have hgD : h₁.get? D = some (listOf (List.toArray []) 0) := by
    refine hsb₁.extBut _ _ hDC (Heap.get?_push_of_some _ ?_)
    rw [← hH2, ← hs1]; exact Heap.get?_push_size _ rfl
  have F0 : Fr B C h₁ (fun x => ([] : List (Str × Value)).reverse.lookup x) := ⟨hns₁, fun b o e => up b o (by rw [← Bsz]; exact Heap.lt_size e) (B0 b o e), by omega⟩
  have BD : B.get? D = none := Heap.get?_none_of_le (by omega)
  have N0 : News B C h₁ ((D, listOf (List.toArray []) 0) :: (I, it0) :: ds) := by
    intro p hp
    rcases List.mem_cons.mp hp with rfl | hp
    · exact ⟨hgD, hDC, BD⟩
    rcases List.mem_cons.mp hp with rfl | hp
    · exact ⟨hgI, hIC, BI⟩
    · have := dsI p hp
      exact ⟨up _ _ this (hds p hp), Nat.ne_of_lt (Nat.lt_trans this hIC'), Bds p hp⟩
  have loop : codeAny (model prog w) A (.compLoop (.ListComp elt [⟨.Name x px, iter, [], 0⟩] scope pos) 0 (.ref I) (.ref D) (compEnvC scope cl C env))
      (compPost (model prog w) A E use Q (.ref D) C) { heap := h₁, gens := gens, drawn := drawn, toks := tk0, os := os } := by
    refine codeAny_compLoop_tests (fun k s' => ∃ i h tk m out c news it, s' = { heap := h, gens := gens, drawn := drawn, toks := tk, os := os } ∧ k = n + 1 - i ∧ i ≤ n ∧ Ob i it ∧ TurnAt B C D I it out c news h m ∧ J i out news) ?_ (n + 1)
      ⟨0, h₁, tk0, _, [], 0, ds, it0, rfl, rfl, Nat.zero_le _, hOb0, ⟨F0, N0, fun p hp => Nat.ne_of_lt (Nat.lt_trans (dsI p hp) hID'), fun p hp => Nat.ne_of_lt (dsI p hp)⟩, hJ0⟩
    rintro k s' ⟨i, h, tk, m, out, c, news, it, rfl, rfl, hi, hOb, ⟨F, N, nD, nI⟩, hJ⟩
    have hSt : St i h := hst i it h hOb (N _ (.tail _ (.head _))).1 F.keep
    by_cases hlt : i < n
    · refine W.item i _ _ _ hlt hSt fun v h2 tk2 hP hst2 hk2 => ?_
      obtain ⟨it2, hOb2, hit2⟩ := hob _ _ hst2
      have F2 : Fr B C h2 m := by
        obtain ⟨oL, es, ep, hoL, r⟩ := F.ns
        exact ⟨⟨oL, es, ep, hk2 _ _ (by simpa using Ne.symm hIC) hoL, r⟩, fun b o e => hk2 _ _ (by simp; rintro rfl; rw [BI] at e; cases e) (F.keep b o e), F.above⟩
      have N2 : News B C h2 ((D, listOf (List.toArray out) c) :: (I, it2) :: news) := by
        intro p hp
        rcases List.mem_cons.mp hp with rfl | hp
        · exact ⟨hk2 _ _ (by simpa using hDI) (N _ (.head _)).1, (N _ (.head _)).2⟩
        rcases List.mem_cons.mp hp with rfl | hp
        · exact ⟨hit2, hIC, BI⟩
        · exact ⟨hk2 _ _ (by simpa using nI p hp) (N p (.tail _ (.tail _ hp))).1, (N p (.tail _ (.tail _ hp))).2⟩
      refine wpAny_assign_Name (wpAny_storeName_local (lookup_relabel_local hx) F2.ns (fun h3 hn3 hs3 => ?_) (by simp [compEnvC, relabel, hkind]))
      have F3 := F2.set hn3 hs3
      have N3 := N2.set hs3
      refine wpAny_tests_nil ?_
      rw [if_pos rfl]
      refine wpAny_mono (turn C D it2 i v out c news h3 _ _ hlt hP hJ ⟨F3, N3, nD, nI⟩ (by simp)) (fun y s' hy => ?_) fun _ _ x => x.elim
      obtain ⟨h4, tk4, m4, news4, rfl, ⟨F4, N4, nD4, nI4⟩, hJ4⟩ := hy
      have hl4 := hJl _ _ _ hJ4
      refine append_head F4 N4 (fun p hp => ?_) (fun h5 F5 N5 => ?_) (by rw [sizeLine_eq]; simp at hl4 ⊢; omega)
      · rcases List.mem_cons.mp hp with rfl | hp
        · exact Ne.symm hDI
        · exact nD4 p hp
      · refine ⟨n + 1 - (i + 1), by omega, i + 1, h5, tk4, m4, out ++ [y], c + 1, news4, it2, rfl, rfl, hlt, hOb2, ⟨F5, ?_, nD4, nI4⟩, hJ4⟩
        rw [show List.toArray (out ++ [y]) = (List.toArray out).push y by simp]
        exact N5
    · have hin : i = n := by omega
      subst hin
      refine W.done _ _ _ hSt fun h2 tk2 hk2 => ?_
      obtain ⟨oL, es, ep, hoL, r⟩ := F.ns
      have nC : ∀ p ∈ news, p.1 ≠ C := fun p hp => (N p (.tail _ (.tail _ hp))).2.1
      refine done D C h2 tk2 m out c news hJ (fun b o e hb => ?_) (Heap.get?_none_of_le (by omega)) (Heap.get?_none_of_le (by omega)) hDC ⟨oL, es, ep, hk2 _ _ (by simpa using Ne.symm hIC) hoL, r⟩ ?_ (fun p hp => ?_) (fun p hp => ⟨nD p hp, nC p hp⟩)
      · have eB : B.get? b = some o := by rw [← hB]; exact hideAll_get _ e hb
        have hlt := Heap.lt_size eB
        rw [Bsz] at hlt
        exact hk2 _ _ (by simpa using Nat.ne_of_lt hlt) (F.keep _ _ eB)
      · exact hk2 _ _ (by simpa using hDI) (N _ (.head _)).1
      · exact hk2 _ _ (by simpa using nI p hp) (N p (.tail _ (.tail _ hp))).1
  exact codeAny_compStart_list loop (W.self 0 _ _ _ (hst 0 it0 h₁ hOb0 hgI F0.keep) loop)
end
end

section
section
variable {prog : Program} {w : World} {A : Around} {E : Value → Shared → Prop} {s : Shared}

theorem comp_list {elt iter : PySem.Expr} {x : Str} {px pos : Pos} {scope : Scope} {cl : List (Str × Addr)} {env : Env} {Q : Value → Shared → Prop} {s₁ : Shared} {ax : Addr} {vs : List Value}
    (ds : List (Addr × Obj)) (J : Nat → List Value → List (Addr × Obj) → Prop)
    (hcell : ∀ y ∈ scope.names, y.2 ≠ .cell) (hkind : scope.kind = .function) (hx : scope.names.lookup x = some .local) (hh : A.handled = none)
    (hl : s₁.heap.IsList ax (List.toArray vs)) (hax : ax ∉ ds.map (·.1)) (hn : vs.length ≤ 1000)
    (hds : ∀ p ∈ ds, s₁.heap.get? p.1 = some p.2)
    (hJ0 : J 0 [] ds) (hJl : ∀ i out news, J i out news → out.length ≤ i)
    (turn : ∀ C D it i v out c news h tk m, i < vs.length → vs[i]? = some v → J i out news → TurnAt (hideAll s₁.heap (ds.map (·.1))) C D s₁.heap.objs.size it out c news h m → m x = some v →
      wpAny (model prog w) A (eval elt (compEnvC scope cl C env)) (fun y s' => ∃ h' tk' m' news', s' = { s₁ with heap := h', toks := tk' } ∧ TurnAt (hideAll s₁.heap (ds.map (·.1))) C D s₁.heap.objs.size it out c news' h' m' ∧ J (i + 1) (out ++ [y]) news') (fun _ _ => False) { s₁ with heap := h, toks := tk })
    (done : ∀ D h' tk out c news, J vs.length out news → KeepBut (ds.map (·.1)) s₁.heap h' → s₁.heap.get? D = none → h'.get? D = some (listOf (List.toArray out) c) → (∀ p ∈ news, h'.get? p.1 = some p.2) → (∀ p ∈ news, p.1 ≠ D) → Q (.ref D) { s₁ with heap := h', toks := tk }) :
    CompReady prog w A E none Q env scope cl elt x px iter pos (.ref ax) s₁ := by
  obtain ⟨oa, hoa, ra⟩ := id hl
  have hlt := Heap.lt_size hoa
  refine comp_own (n := (List.toArray vs).size) (P := fun i v => (List.toArray vs)[i]? = some v) ds (ObL ax) J hcell hkind hx (fun Q' hq => wpAny_pyIter_list hl hq) (Walks.list hh _ ax (Nat.ne_of_lt hlt) (List.toArray vs)) (by simpa using hn)
    ⟨⟨_, Heap.get?_push_size _ rfl, rfl, rfl⟩, hl.at fun o e => Heap.get?_push_of_some _ e⟩ ?_ hds ?_ ?_ hJ0 hJl ?_ ?_
  · intro b hb
    rcases List.mem_cons.mp hb with rfl | hb
    · exact Nat.le_refl _
    · rw [List.mem_singleton.mp hb]; exact Nat.le_of_lt hlt
  · rintro i h ⟨⟨it, a, b, c⟩, _⟩
    exact ⟨it, ⟨b, c⟩, a⟩
  · rintro i it h ⟨b, c⟩ a hk
    exact ⟨⟨it, a, b, c⟩, ⟨oa, hk _ _ (hideAll_get _ hoa hax), ra⟩⟩
  · intro C D it i v out c news h tk m hi hP hJ hT hm
    exact turn C D it i v out c news h tk m (by simpa using hi) (by simpa using hP) hJ hT hm
  · intro D C h' tk m' out c news hJ hk hD hC hDC hn hD2 hN hne
    refine ⟨m', hn, fun h3 hs3 => done D h3 tk out c news (by simpa using hJ) (fun b o e hb => (hs3.2 b (by rintro rfl; rw [hC] at e; cases e)).trans (hk b o e hb)) hD ((hs3.2 D hDC).trans hD2) (fun p hp => (hs3.2 _ (hne p hp).2).trans (hN p hp)) fun p hp => (hne p hp).1⟩

theorem range_size {b : Int} (h0 : 0 ≤ b) : Builtin.Range.rangeSize 0 b 1 = (b.toNat : Int) := by
  unfold Builtin.Range.rangeSize
  rw [if_pos (by decide)]
  split
  · rw [Int.ediv_one]; omega
  · omega

theorem comp_range {elt iter : PySem.Expr} {x : Str} {px pos : Pos} {scope : Scope} {cl : List (Str × Addr)} {env : Env} {Q : Shared → Prop} {s₁ : Shared} {g : Heap} {m₀ : Str → Option Value} {y : Str} {py : Pos} {r : Addr} {b : Int} {t1 t2 t3 : Tok}
    (F₀ : Fr g env.locals s₁.heap m₀) (ds : List (Addr × Obj)) (hdsL : ∀ p ∈ ds, p.1 ≠ env.locals) (hds0 : ∀ p ∈ ds, g.get? p.1 = none) (J : Nat → List Value → List (Addr × Obj) → Prop)
    (hcell : ∀ y ∈ scope.names, y.2 ≠ .cell) (hkind : scope.kind = .function) (hx : scope.names.lookup x = some .local) (hh : A.handled = none)
    (hr : IsRange s₁.heap r 0 b 1 t1 t2 t3) (hb0 : 0 ≤ b) (hb : b ≤ 100)
    (hds : ∀ p ∈ ds, s₁.heap.get? p.1 = some p.2)
    (hJ0 : J 0 [] ds) (hJl : ∀ i out news, J i out news → out.length ≤ i)
    (turn : ∀ C D it i v out c news h tk m, i < b.toNat → J i out news → TurnAt (hideAll s₁.heap (ds.map (·.1))) C D s₁.heap.objs.size it out c news h m → m x = some v →
      wpAny (model prog w) A (eval elt (compEnvC scope cl C env)) (fun y s' => ∃ h' tk' m' news', s' = { s₁ with heap := h', toks := tk' } ∧ TurnAt (hideAll s₁.heap (ds.map (·.1))) C D s₁.heap.objs.size it out c news' h' m' ∧ J (i + 1) (out ++ [y]) news') (fun _ _ => False) { s₁ with heap := h, toks := tk })
    (hy : env.kindOf y = some .local) (hpp : (env.scope.kind == .class || (env.scope.kind == .module && env.locals != env.globals)) = false)
    (done : ∀ D h' tk out c news, J b.toNat out news → Fr g env.locals h' (fun z => if z = y then some (.ref D) else m₀ z) → KeepBut (env.locals :: ds.map (·.1)) s₁.heap h' → s₁.heap.get? D = none → h'.get? D = some (listOf (List.toArray out) c) → (∀ p ∈ news, p.1 ≠ env.locals → h'.get? p.1 = some p.2) → (∀ p ∈ news, p.1 ≠ D) → Q { s₁ with heap := h', toks := tk }) :
    CompReady prog w A E (some (assign (.Name y py) env)) (fun _ s' => Q s') env scope cl elt x px iter pos (.ref r) s₁ := by
  have hsm : Builtin.Range.small 0 b 1 = true := by
    unfold Builtin.Range.small Builtin.Range.rangeFitsLong
    rw [range_size hb0]
    simp only [Bool.and_eq_true, decide_eq_true_eq, Bool.or_eq_true]
    refine ⟨⟨⟨⟨by decide, ?_⟩, by decide⟩, ?_⟩, .inr ?_⟩
    · omega
    · omega
    · rw [if_pos (by decide)]; simp only [Bool.and_eq_true, decide_eq_true_eq]; omega
  refine comp_own (n := b.toNat) ds (fun i it => it = { cls := .type "range_iterator", dict := none, data := .fields #[rawInt (0 + (i : Nat) * 1), rawInt ((b.toNat : Int) - (i : Nat)), rawInt 1], slots := #[] }) J hcell hkind hx (fun Q' hq => wpAny_pyIter_range hr hsm hq) (Walks.range hh _ 0 1 b.toNat) (by omega)
    ?_ ?_ hds ?_ ?_ hJ0 hJl ?_ ?_
  · show IsRangeIter _ _ _ _ _
    rw [range_size hb0]; simpa using Heap.get?_push_size _ rfl
  · intro c hc
    rw [List.mem_singleton.mp hc]; exact Nat.le_refl _
  · intro i h hst
    exact ⟨_, rfl, hst⟩
  · rintro i it h rfl a _
    exact a
  · intro C D it i v out c news h tk m hi hP hJ hT hm
    exact turn C D it i v out c news h tk m hi hJ hT hm
  · intro D C h' tk m' out c news hJ hk hD hC hDC hn hD2 hN hne
    have F1 : Fr g env.locals h' m₀ := Fr.behind F₀ hk (fun hm => by obtain ⟨p, hp, e⟩ := List.mem_map.mp hm; exact hdsL p hp e) (fun d hd => by obtain ⟨p, hp, rfl⟩ := List.mem_map.mp hd; exact hds0 p hp)
    obtain ⟨oL, _, _, hoL, _⟩ := id F₀.ns
    have hLC : env.locals ≠ C := by intro e; rw [e, hC] at hoL; cases hoL
    have hLD : env.locals ≠ D := by intro e; rw [e, hD] at hoL; cases hoL
    show wpAny _ A (assign (.Name y py) env (.ref D)) _ _ _
    refine wpAny_assign_Name (wpAny_storeName_local hy F1.ns (fun h₂ hn₂ hs₂ => ?_) hpp)
    refine ⟨m', hn.sameBut hs₂ (Ne.symm hLC), fun h₃ hs₃ => ?_⟩
    have F2 := F1.set hn₂ hs₂
    have F3 : Fr g env.locals h₃ _ := ⟨F2.ns.sameBut hs₃ hLC, fun b o e => (hs₃.2 b (by rintro rfl; have := F₀.keep _ _ e; rw [hC] at this; cases this)).trans (F2.keep b o e), F2.above⟩
    refine done D h₃ _ out c news hJ F3 (fun b o e hb => ?_) hD ((hs₃.2 D hDC).trans ((hs₂.2 D (Ne.symm hLD)).trans hD2)) (fun p hp hpl => (hs₃.2 _ (hne p hp).2).trans ((hs₂.2 _ hpl).trans (hN p hp))) fun p hp => (hne p hp).1
    simp only [List.mem_cons, not_or] at hb
    exact (hs₃.2 b (by rintro rfl; rw [hC] at e; cases e)).trans ((hs₂.2 b hb.1).trans (hk b o e hb.2))

/-- the pairs that a ledger holds -/
inductive PairsIn (news : List (Addr × Obj)) : List Value → List (Str × Value) → Prop
  | nil : PairsIn news [] []
  | snoc {a : Addr} {x : Str} {t : Tok} {v : Value} {vs : List Value} {kvs : List (Str × Value)} : PairsIn news vs kvs → (a, tupOf (List.toArray [Value.str x t, v])) ∈ news → PairsIn news (vs ++ [.ref a]) (kvs ++ [(x, v)])
theorem PairsIn.mono {news news' : List (Addr × Obj)} (hs : ∀ p ∈ news, p ∈ news') {vs : List Value} {kvs : List (Str × Value)} (h : PairsIn news vs kvs) : PairsIn news' vs kvs := by
  induction h with
  | nil => exact .nil
  | snoc _ hm ih => exact .snoc ih (hs _ hm)
theorem PairsAre.append {h : Heap} {vs ws : List Value} {ps qs : List (Str × Value)} (a : PairsAre h vs ps) (b : PairsAre h ws qs) : PairsAre h (vs ++ ws) (ps ++ qs) := by
  induction a with
  | nil => exact b
  | cons t _ ih => exact .cons t ih
theorem PairsIn.are {news : List (Addr × Obj)} {h : Heap} (hs : ∀ p ∈ news, h.get? p.1 = some p.2) {vs : List Value} {kvs : List (Str × Value)} (x : PairsIn news vs kvs) : PairsAre h vs kvs := by
  induction x with
  | nil => exact .nil
  | snoc _ hm ih => exact ih.append (.cons ⟨_, hs _ hm, rfl, _, rfl⟩ .nil)
theorem PairsIn.length {news : List (Addr × Obj)} {vs : List Value} {kvs : List (Str × Value)} (x : PairsIn news vs kvs) : vs.length = kvs.length := by
  induction x with
  | nil => rfl
  | snoc _ _ ih => simp [ih]

/-- [(x, 1) for x in a list of texts] -/
theorem comp_pairs {iter : PySem.Expr} {x : Str} {px p1 p2 p3 pos : Pos} {k1 k2 : Nat} {scope : Scope} {env : Env} {Q : Value → Shared → Prop} {ax : Addr} {vs : List Value} {ss : List Str}
    (hh : A.handled = none) (hit : ∀ Q' : Value → Shared → Prop, Q' (.ref ax) s → wpAny (model prog w) A (eval iter env) Q' E s)
    (hl : s.heap.IsList ax (List.toArray vs)) (hS : StrsAre vs ss) (hn : ss.length ≤ 1000)
    (hclos : closureFor scope env = pure []) (hkind : scope.kind = .function) (hnames : ∀ y ∈ scope.names, y.2 = .local → scope.names.lookup y.1 = some .local) (hcell : ∀ y ∈ scope.names, y.2 ≠ .cell) (hx : scope.names.lookup x = some .local)
    (hxk : ∀ C, (compEnvC scope [] C env).kindOf x = some .local) (hdx : (x == ("__debug__" : Str)) = false)
    (h : ∀ D h' tk out c ps, KeepBut [] s.heap h' → s.heap.get? D = none → h'.get? D = some (listOf (List.toArray out) c) → PairsAre h' out ps → ps.map (·.1) = ss → Q (.ref D) { s with heap := h', toks := tk })
    (hs : ∀ x, foldedSetIterable iter env x = pure x := by intro _; rfl)
    (hst : ∀ C, starEach [.Name x p1, .Constant (.int 1) k1 p2] (compEnvC scope [] C env) = [(false, eval (.Name x p1) (compEnvC scope [] C env)), (false, eval (.Constant (.int 1) k1 p2) (compEnvC scope [] C env))] := by intro _; rfl) :
    wpAny (model prog w) A (eval (.ListComp (.Tuple [.Name x p1, .Constant (.int 1) k1 p2] k2 p3) [⟨.Name x px, iter, [], 0⟩] scope pos) env) Q E s := by
  have hlen := hS.length
  refine comp_enter hclos hkind hnames (hit _ ?_) hs
  refine comp_list [] (fun i out news => ∃ ps, PairsIn news out ps ∧ ps.map (·.1) = ss.take i) hcell hkind hx hh hl (by simp) (by omega) (by simp) ⟨[], .nil, by simp⟩ (fun i out news ⟨ps, h1, h2⟩ => ?_) (fun C D it i v out c news h tk m hi hv hJ hT hm => ?_) (fun D h' tk out c news hJ hk hD ho hN _ => ?_)
  · have := congrArg List.length h2
    simp at this
    rw [h1.length]; omega
  · obtain ⟨F, N, nD, nI⟩ := hT
    obtain ⟨ps, h1, h2⟩ := hJ
    obtain ⟨y, t, rfl, hy⟩ := StrsAre.get hS hv
    refine Tuple_ ?_
    rw [show backTo p3 (starEach [.Name x p1, .Constant (.int 1) k1 p2] (compEnvC scope [] C env)) = backTo p3 [(false, eval (.Name x p1) (compEnvC scope [] C env)), (false, eval (.Constant (.int 1) k1 p2) (compEnvC scope [] C env))] by rw [hst]]
    refine Calls.spliced_cons (wpAny_Name (wpAny_loadName_local hkind (hxk C) F.ns hm ?_) hdx)
    refine Calls.spliced_cons (wpAny_Constant_int (k := k1) (pos := p2) ?_)
    refine Calls.spliced_nil ?_
    refine newTuple_N F N (fun h' F' N' => ?_) (by rw [sizeLine_eq]; simp)
    refine ⟨h', _, m, (h.objs.size, tupOf (List.toArray [Value.str y t, .int 1 tk])) :: news, rfl, ⟨F', ?_, ?_, ?_⟩, ps ++ [(y, .int 1 tk)], PairsIn.snoc (t := t) (h1.mono fun p hp => .tail _ hp) (.head _), ?_⟩
    · intro p hp
      rcases List.mem_cons.mp hp with rfl | hp
      · exact N' _ (.tail _ (.head _))
      rcases List.mem_cons.mp hp with rfl | hp
      · exact N' _ (.tail _ (.tail _ (.head _)))
      rcases List.mem_cons.mp hp with rfl | hp
      · exact N' _ (.head _)
      · exact N' _ (.tail _ (.tail _ (.tail _ hp)))
    · intro p hp
      rcases List.mem_cons.mp hp with rfl | hp
      · exact Ne.symm (Nat.ne_of_lt (Heap.lt_size (N _ (.head _)).1))
      · exact nD p hp
    · intro p hp
      rcases List.mem_cons.mp hp with rfl | hp
      · exact Ne.symm (Nat.ne_of_lt (Heap.lt_size (N _ (.tail _ (.head _))).1))
      · exact nI p hp
    · rw [List.map_append, h2, List.take_add_one, hy]; rfl
  · obtain ⟨ps, h1, h2⟩ := hJ
    exact h D h' tk out c ps hk hD ho (h1.are hN) (by rw [h2, hlen, List.take_length])
end
end

section
local macro_rules | `(tactic| walk_at "zz0") => `(tactic| fail)
/-- as ResSpec, of a list that is not sorted yet -/
def RawSpec (W : Signs) (cs : List Int) : Option (List Str) → Prop
  | none => ∀ c ∈ cs, CommonAt W c
  | some l => (∃ c ∈ cs, ¬ CommonAt W c) ∧ ∀ y, y ∈ l ↔ ∀ c ∈ cs, ¬ CommonAt W c → WideOf (nmOf W c) y
theorem RawSpec.nil {W : Signs} : RawSpec W [] none := fun _ h => nomatch h
theorem RawSpec.common {W : Signs} {cs : List Int} {c : Int} {r : Option (List Str)} (h : RawSpec W cs r) (hc : CommonAt W c) : RawSpec W (cs ++ [c]) r := by
  cases r with
  | none =>
    intro d hd
    rcases List.mem_append.mp hd with hd | hd
    · exact h d hd
    · rw [List.mem_singleton.mp hd]; exact hc
  | some l =>
    obtain ⟨⟨d, hd, hn⟩, hm⟩ := h
    refine ⟨⟨d, List.mem_append_left _ hd, hn⟩, fun y => (hm y).trans ⟨fun h e he hne => ?_, fun h e he hne => h e (List.mem_append_left _ he) hne⟩⟩
    rcases List.mem_append.mp he with he | he
    · exact h e he hne
    · rw [List.mem_singleton.mp he] at hne; exact absurd hc hne
theorem RawSpec.first {W : Signs} {cs : List Int} {c : Int} {k : List Str} (h : RawSpec W cs none) (hc : ¬ CommonAt W c) (hm : ∀ y, y ∈ k ↔ WideOf (nmOf W c) y) : RawSpec W (cs ++ [c]) (some k) := by
  refine ⟨⟨c, by simp, hc⟩, fun y => (hm y).trans ⟨fun hw e he hne => ?_, fun hw => hw c (by simp) hc⟩⟩
  rcases List.mem_append.mp he with he | he
  · exact absurd (h e he) hne
  · rw [List.mem_singleton.mp he]; exact hw
theorem RawSpec.more {W : Signs} {cs : List Int} {c : Int} {l k : List Str} (h : RawSpec W cs (some l)) (hc : ¬ CommonAt W c) (hm : ∀ y, y ∈ k ↔ WideOf (nmOf W c) y) : RawSpec W (cs ++ [c]) (some (l.filter (fun y => decide (y ∈ k)))) := by
  obtain ⟨⟨d, hd, hn⟩, hl⟩ := h
  refine ⟨⟨d, List.mem_append_left _ hd, hn⟩, fun y => ?_⟩
  rw [List.mem_filter, decide_eq_true_eq, hl, hm]
  constructor
  · rintro ⟨h1, h2⟩ e he hne
    rcases List.mem_append.mp he with he | he
    · exact h1 e he hne
    · rw [List.mem_singleton.mp he]; exact h2
  · intro h
    exact ⟨fun e he hne => h e (List.mem_append_left _ he) hne, h c (by simp) hc⟩

/-- what the table adds for a name -/
def Adds (y : Str) (zs : List Str) : Prop := (∀ z, z ∈ zs ↔ ∃ q ∈ wTab, q.1 = y ∧ z ∈ q.2) ∧ zs.length ≤ 3
/-- the wide list behind the first j names -/
def WideAt (ns : List Str) (j : Nat) (l : List Str) : Prop := (∀ z, z ∈ l ↔ z ∈ ns ∨ ∃ y ∈ ns.take j, ∃ q ∈ wTab, q.1 = y ∧ z ∈ q.2) ∧ l.length ≤ ns.length + 3 * j
theorem WideAt.zero (ns : List Str) : WideAt ns 0 ns := ⟨by simp, by omega⟩
theorem WideAt.next {ns l zs : List Str} {j : Nat} {y : Str} (h : WideAt ns j l) (hy : ns[j]? = some y) (a : Adds y zs) : WideAt ns (j + 1) (l ++ zs) := by
  refine ⟨fun z => ?_, ?_⟩
  · rw [List.mem_append, h.1, a.1, List.take_add_one, hy]
    simp only [Option.toList_some, List.mem_append, List.mem_singleton]
    constructor
    · rintro ((h | ⟨y', h1, h2⟩) | h)
      · exact .inl h
      · exact .inr ⟨y', .inl h1, h2⟩
      · exact .inr ⟨y, .inr rfl, h⟩
    · rintro (h | ⟨y', h1 | rfl, h2⟩)
      · exact .inl (.inl h)
      · exact .inl (.inr ⟨y', h1, h2⟩)
      · exact .inr h2
  · have := h.2; have := a.2; simp; omega
theorem WideAt.wide {ns l : List Str} (h : WideAt ns ns.length l) (z : Str) : z ∈ l ↔ WideOf ns z := by
  rw [h.1, List.take_length]
  unfold WideOf
  constructor
  · rintro (h | ⟨y, h1, q, h2, rfl, h3⟩)
    · exact .inl h
    · exact .inr ⟨q, h2, h1, h3⟩
  · rintro (h | ⟨q, h1, h2, h3⟩)
    · exact .inl h
    · exact .inr ⟨q.1, h2, q, h1, rfl, h3⟩

theorem adds_get {y : Str} {q0 : Str × List Str} (h : q0 ∈ wTab) (e : y = q0.1) : Adds y q0.2 := by
  have h1 : ∀ q ∈ wTab, ∀ q' ∈ wTab, q.1 = q'.1 → q.2 = q'.2 := by decide +kernel
  have h2 : ∀ q ∈ wTab, q.2.length ≤ 3 := by decide +kernel
  refine ⟨fun z => ⟨fun hz => ⟨q0, h, e.symm, hz⟩, ?_⟩, h2 _ h⟩
  rintro ⟨q, hq, hqe, hz⟩
  rw [h1 _ h _ hq (e.symm.trans hqe.symm)]
  exact hz
theorem adds_none {y : Str} (h : ∀ q ∈ wTab, q.1 ≠ y) : Adds y [] := by
  refine ⟨fun z => ⟨fun hz => (nomatch hz), ?_⟩, by simp⟩
  rintro ⟨q, hq, e, _⟩
  exact absurd e (h q hq)

section
variable {M : Model} {A : Around} {E : Value → Shared → Prop} {s : Shared} {h₀ : Heap} {L a : Addr} {m : Str → Option Value} {cn : Str} {cs : Scope} {ccd : Value} {cl : List (Str × Addr)}
  {x : Str} {v : Value} {Q : Unit → Shared → Prop} {rest : List (Addr × Obj)} {c : Addr} {o : Obj} {v₀ : Option Value}
theorem store_cell (F : Fr h₀ L s.heap m) (N : News h₀ L s.heap ((c, o) :: rest)) (hr : ∀ p ∈ rest, p.1 ≠ c) (hc : cl.lookup x = some c) (hd : o.data = .cell v₀)
    (h : ∀ h' o', Fr h₀ L h' m → News h₀ L h' ((c, o') :: rest) → o'.data = .cell (some v) → Q () { s with heap := h' })
    (hk : cs.kind = .function := by rfl) (hx : (envX cn cs L a ccd cl).kindOf x = some .cell := by rfl) : wpAny M A (storeName (envX cn cs L a ccd cl) x v) Q E s :=
  storeX_C F N hc (.head hr) hd h hk hx
end

theorem add_words {prog : Program} {w : World} {A : Around} {E : Value → Shared → Prop} {s : Shared} {h₀ : Heap} {L : Addr} {m : Str → Option Value} {news : List (Addr × Obj)} {l b : Addr} {vs : List Value} {ss : List Str} {y : Str} {Q : Value → Shared → Prop}
    (F : Fr h₀ L s.heap m) (N : News h₀ L s.heap news) (hl : s.heap.IsList l (List.toArray vs)) (hS : StrsAre vs ss) (hsz : ss.length ≤ 1000)
    (src : ∃ ws zs, s.heap.IsList b (List.toArray ws) ∧ StrsAre ws zs ∧ Adds y zs)
    (h : ∀ D h' us zs, Fr h₀ L h' m → News h₀ L h' ((D, listOf (List.toArray us) 0) :: news) → (∀ p ∈ news, p.1 < D) → StrsAre us (ss ++ zs) → Adds y zs → Q (.ref D) { s with heap := h' }) :
    wpAny (model prog w) A (binaryOp .Add (.ref l) (.ref b)) Q E s := by
  obtain ⟨ws, zs, hb, hz, ha⟩ := src
  have e1 := hS.length
  have e2 := hz.length
  have e3 := ha.2
  exact add_lists F N hl hb (fun h' F' N' => h _ h' (vs ++ ws) zs F' N' (fun p hp => Heap.lt_size (N p hp).1) (hS.append' hz) ha) (by rw [sizeLine_eq]; omega)
local macro_rules | `(tactic| walk_at "call type:dict") => `(tactic| with_reducible refine hold ?_)
local macro_rules | `(tactic| walk_at "binaryOp Add ref ref") => `(tactic| with_reducible refine hold ?_)
section
variable {w : World} {mg mb : Str → Option Value} {mean : ExcName → Option Value} {loose : List Str} {h₀ : Heap} {dp un : Nat} {fr : Option (List Env)} {gd : Option (List Code)} {s : Shared} {Q : Value → Shared → Prop} {E : Value → Shared → Prop}
theorem law_own2_ok {wa : Addr} {W : Signs} {cs : List Int} {c : Int} {tx : Tok}
    (kp : ∀ b o, h₀.get? b = some o → s.heap.get? b = some o) (X : (hd.heap_1 w.params).In h₀) (T : Top hVw loose mean mg mb h₀) (hdp : dp ≤ 900) (hun : un ≤ 9000)
    (R : WRep w h₀ wa W cs) (hQ : NoQ W cs) (hc : c ∈ cs)
    (retN : ∀ h' tk', KeepBut [] s.heap h' → CommonAt W c → Q .none { s with heap := h', toks := tk' })
    (retS : ∀ a vs h' tk' (ol : List (Addr × Obj)), KeepBut [] s.heap h' → ¬ CommonAt W c → (ol = [] ∧ IsTup h₀ a (List.toArray vs) ∨ ol = [(a, tupOf (List.toArray vs))]) → (∀ p ∈ ol, s.heap.get? p.1 = none ∧ h'.get? p.1 = some p.2) → StrsAre vs (nmOf W c) → Q (.ref a) { s with heap := h', toks := tk' }) :
    wpAny (model PR w) (AX dp un fr gd) (call (.ref 213) [.ref wa, .int c tx]) Q E s := by
  refine law_own_ok kp X T hdp hun R hQ hc retN (fun a vs h' tk' hk hn hT hS => ?_) fun a vs h' tk' hk hn ha ho hS => ?_
  · exact retS a vs h' tk' [] hk hn (.inl ⟨rfl, hT⟩) (by simp) hS
  · exact retS a vs h' tk' _ hk hn (.inr rfl) (by simpa using ⟨ha, ho⟩) hS

theorem law_resolved_ok {wa tx : Addr} {W : Signs} {ds : List Int} {vs : List Value} {cs : List Int}
    (kp : ∀ b o, h₀.get? b = some o → s.heap.get? b = some o) (X : (hd.heap_1 w.params).In h₀) (T : Top hVw loose mean mg mb h₀) (hdp : dp ≤ 890) (hun : un ≤ 8900)
    (R : WRep w h₀ wa W ds) (hQ : NoQ W ds) (hsub : ∀ c ∈ cs, c ∈ ds) (hW3 : ∀ c ∈ ds, (nmOf W c).length ≤ 3) (hT : h₀.IsList tx (List.toArray vs)) (hI : IntsAre vs cs) (hlen : cs.length ≤ 100)
    (retN : ∀ h' tk', KeepBut [] s.heap h' → ResSpec W cs none → Q .none { s with heap := h', toks := tk' })
    (retT : ∀ a out l h' tk', KeepBut [] s.heap h' → s.heap.get? a = none → h'.get? a = some (tupOf (List.toArray out)) → StrsAre out l → l.length ≤ 35 → ResSpec W cs (some l) → Q (.ref a) { s with heap := h', toks := tk' }) :
    wpAny (model PR w) (AX dp un fr gd) (call (.ref 218) [.ref wa, .ref tx]) Q E s := by
  refine wpAny_call ?_
  refine' code_fnC (news := []) (binds := [(Str.ofString "w", .ref wa), (Str.ofString "text", .ref tx)]) ?k1 ?k2 ?k3 ?k4 ?k6 ?k7 ?k8 ?k9 ?kB ?kD ?_ ?c2 ?c3 ?c4
  case k1 => exact kp
  case k2 => exact X
  case k3 => exact T
  case k4 => (intro q hq; exact nomatch hq)
  case k6 => k_is
  case k7 => k_is
  case k8 => (simp only [recursionLimit] at *; omega)
  case k9 => first | exact BindsTo.of_eq rfl | exact binds_K (X.keeps kp) rfl (by k_is) rfl rfl rfl
  case kB => exact rfl
  case kD => decide +kernel
  case c2 => exact rfl
  case c3 => exact rfl
  case c4 => exact rfl
  intro g L' h₁ tk₁ cells hg hkg hgs F N Y X' T' lN
  k_cells Y
  simp only [List.cons_append, List.nil_append] at N
  show wpAny _ _ _ _ _ _
  dsimp only
  k_fold
  have kg : ∀ b o, s.heap.get? b = some o → g.get? b = some o := fun b o e => hkg b o e (fun h => nomatch h)
  have hTg : g.IsList tx (List.toArray vs) := hT.at fun o e => hg _ o e
  have Rg := R.keep hg
  k_steps
  show wpAny _ _ _ _ _ _
  rename Fr _ _ _ _ => F1
  rename News _ _ _ _ => N1
  rename_i o1 ho1 h1
  refine wpAny_For (nameX_L F1 rfl ?_)
  refine for_list (items := List.toArray vs) (fun ax i m news => ∃ oc ov fl r, oc.data = .cell ov ∧ news = (L' + 1, oc) :: fl ∧ RawSpec W (cs.take i) r ∧ m (Str.ofString "w") = some (.ref wa) ∧ (∀ p ∈ fl, p.1 ≠ L' + 1) ∧
    ((r = none ∧ m (Str.ofString "found") = some .none ∧ fl = []) ∨ ∃ l fa out c, r = some l ∧ m (Str.ofString "found") = some (.ref fa) ∧ fl = [(fa, listOf (List.toArray out) c)] ∧ StrsAre out l ∧ l.length ≤ 15)) rfl F1 N1
    ⟨o1, _, [], none, ho1, rfl, RawSpec.nil, rfl, (fun _ h => nomatch h), .inl ⟨rfl, rfl, rfl⟩⟩ ?_ ?_ ?_
  · rintro i m news h - F N
    exact hTg.at fun o e => F.keep _ o e
  · rintro I i v it m₁ news₁ h tk hi hv hOb ⟨oc, ov, fl, r, hoc, rfl, hR, mw, hfc, hr⟩ - hnI hlt F2 N2
    clear F1 N1
    obtain ⟨c, t, rfl, hc⟩ := IntsAre.getI hI (by simpa using hv)
    have hcm := hsub c (List.mem_of_getElem? hc)
    have htk : cs.take (i + 1) = cs.take i ++ [c] := by rw [List.take_add_one, hc]; rfl
    refine wpAny_assign_Name (storeX_L F2 N2 (fun h' F3 N3 => ?_) rfl rfl)
    clear F2 N2
    k_steps
    show wpAny _ _ _ _ _ _
    refine law_own2_ok F3.keep X' T' (by (try dsimp only); omega) (by (try dsimp only); omega) Rg hQ hcm (fun h' tk' hk hco => ?_) (fun a vs2 h' tk' ol hk hco hol holn hS => ?_)
    · have F4 := Fr.behind0 F3 hk
      have N4 := News.behind0 N3 hk
      clear hk F3 N3
      k_steps
      rename Fr _ _ _ _ => F5
      rename News _ _ _ _ => N5
      exact TurnK.intro F5 N5 (fun p hp => hp) hnI ⟨oc, ov, fl, r, hoc, rfl, by rw [htk]; exact hR.common hco, mw, hfc, hr⟩
    · have F4 := Fr.behind0 F3 hk
      have N4 : News g L' h' ((L' + 1, oc) :: (I, it) :: (ol ++ fl)) := by
        have N4' := News.behind0 N3 hk
        intro p hp
        rcases List.mem_cons.mp hp with rfl | hp
        · exact N4' _ (.tail _ (.head _))
        rcases List.mem_cons.mp hp with rfl | hp
        · exact N4' _ (.head _)
        rcases List.mem_append.mp hp with hp | hp
        · exact News.made (news := []) F3 (fun _ h => absurd h (by simp)) (holn p hp).2 (holn p hp).1 p (.head _)
        · exact N4' _ (.tail _ (.tail _ hp))
      have hown : ∀ H m' rest, Fr g L' H m' → News g L' H rest → (∀ p ∈ ol, p ∈ rest) → IsTup H a (List.toArray vs2) := by
        rcases hol with ⟨rfl, hT0⟩ | rfl
        · exact fun H m' rest F N _ => hT0.keeps F.keep
        · exact fun H m' rest F N hs => ⟨_, (N _ (hs _ (.head _))).1, rfl, _, rfl⟩
      have holL : ∀ p ∈ ol, p.1 ≠ L' + 1 := by
        intro p hp e
        have := (holn p hp).1
        rw [e, (N3 _ (.tail _ (.head _))).1] at this; cases this
      have holI : ∀ p ∈ ol, p.1 ≠ I := by
        intro p hp e
        have := (holn p hp).1
        rw [e, (N3 _ (.head _)).1] at this; cases this
      obtain ⟨fv, mf⟩ : ∃ fv, m₁ (Str.ofString "found") = some fv := by
        rcases hr with ⟨_, h, _⟩ | ⟨_, _, _, _, _, h, _⟩ <;> exact ⟨_, h⟩
      have hn3 := hW3 c hcm
      have hv2 := hS.length
      have hIL : I ≠ L' + 1 := fun e => hnI _ (.head _) e.symm
      clear hk holn F3 N3
      k_steps
      show wpAny _ _ _ _ _ _
      rename Fr _ _ _ _ => F5
      rename News _ _ _ _ => N5
      refine list_tupleK F5 N5 (vs := vs2) (hown _ _ _ F5 N5 (fun p hp => by simp [hp])) (by omega) (fun D c2 h' F6 N6 l2 => ?_)
      have hDL : D ≠ L' + 1 := Ne.symm (Nat.ne_of_lt (l2 _ (.head _)))
      have hDI : D ≠ I := Ne.symm (Nat.ne_of_lt (l2 _ (.tail _ (.head _))))
      have hDo : ∀ p ∈ ol ++ fl, p.1 ≠ D := fun p hp => Nat.ne_of_lt (l2 _ (.tail _ (.tail _ hp)))
      have hor : ∀ p ∈ ol ++ fl, p.1 ≠ L' + 1 := fun p hp => (List.mem_append.mp hp).elim (holL p) (hfc p)
      have hoI : ∀ p ∈ ol ++ fl, p.1 ≠ I := fun p hp => (List.mem_append.mp hp).elim (holI p) (fun h => hnI p (.tail _ h))
      have N7 : News g L' h' ((L' + 1, oc) :: (D, listOf (List.toArray vs2) c2) :: (I, it) :: (ol ++ fl)) := News.sub N6 (fun p hp => by
        rcases List.mem_cons.mp hp with rfl | hp
        · exact .tail _ (.head _)
        rcases List.mem_cons.mp hp with rfl | hp
        · exact .head _
        · exact .tail _ (.tail _ hp))
      refine store_cell F6 N7 (by
        intro p hp
        rcases List.mem_cons.mp hp with rfl | hp
        · exact hDL
        rcases List.mem_cons.mp hp with rfl | hp
        · exact hIL
        · exact hor p hp) rfl hoc (fun h8 oc8 F8 N8 hoc8 => ?_) rfl rfl
      clear F6 N6 N7 F5 N5
      k_steps
      show wpAny _ _ _ _ _ _
      refine wpAny_For (nameX_L F8 rfl ?_)
      refine for_tup (items := List.toArray vs2) (fun ax j m news => ∃ oc wl wls wout c3, oc.data = .cell (some (.ref wl)) ∧ news = (L' + 1, oc) :: (wl, listOf (List.toArray wout) c3) :: (I, it) :: (ol ++ fl) ∧ StrsAre wout wls ∧ WideAt (nmOf W c) j wls ∧
        m (Str.ofString "w") = some (.ref wa) ∧ m (Str.ofString "found") = some fv ∧ wl ≠ L' + 1 ∧ wl ≠ I ∧ (∀ p ∈ ol ++ fl, p.1 ≠ wl)) rfl F8 N8
        ⟨oc8, D, nmOf W c, vs2, c2, hoc8, rfl, hS, WideAt.zero _, mw, mf, hDL, hDI, hDo⟩ ?_ ?_ ?_
      · rintro j m news h ⟨oc, wl, wls, wout, c3, _, rfl, _⟩ F N
        exact hown _ _ _ F N (fun p hp => by simp [hp])
      · rintro I2 j v it2 m₂ news₂ h tk hj hv hOb2 ⟨oc, wl, wls, wout, c3, hoc, rfl, hSw, hWd, mw, mf, hwL, hwI, hwo⟩ - hnI2 hlt2 F9 N9
        clear F8 N8
        obtain ⟨y, ty, rfl, hy⟩ := StrsAre.get hS (by simpa using hv)
        refine wpAny_assign_Name (storeX_L F9 N9 (fun h' F10 N10 => ?_) rfl rfl)
        clear F9 N9
        have hwl := hSw.length
        have hwl2 := hWd.2
        have hj2 : j < 3 := by have := (List.getElem?_eq_some_iff.mp hy).1; omega
        k_steps
        all_goals (show wpAny _ _ _ _ _ _)
        all_goals (rename Fr _ _ _ _ => F11; rename News _ _ _ _ => N11)
        all_goals refine add_words (y := y) F11 N11 (vs := wout) (ss := wls) ⟨_, N11.get (by k_mem), rfl, _, rfl⟩ hSw (by omega) ?_ (fun D2 h' us zs F12 N12 l12 hSu hA => ?_)
        all_goals first
          | (show ∃ _ _, _
             rename_i hyk av wd ws il ia
             exact ⟨ws, _, il.at (fun o e => F11.keep _ o e), ia, adds_get (q0 := (_, _)) (by decide +kernel) hyk⟩)
          | (show ∃ _ _, _
             rename_i a1 a2 a3 a4 a5
             exact ⟨[], [], ⟨_, (N11 _ (.head _)).1, rfl, _, rfl⟩, .nil, adds_none (by
               intro q hq e
               simp only [wTab, List.mem_cons, List.not_mem_nil, or_false] at hq
               rcases hq with rfl | rfl | rfl | rfl | rfl <;> first | exact a1 (e.symm.trans (by decide +kernel)) | exact a2 (e.symm.trans (by decide +kernel)) | exact a3 (e.symm.trans (by decide +kernel)) | exact a4 (e.symm.trans (by decide +kernel)) | exact a5 (e.symm.trans (by decide +kernel)))⟩)
          | skip
        all_goals
          have hD2L : D2 ≠ L' + 1 := Ne.symm (Nat.ne_of_lt (l12 (L' + 1, oc) (by k_mem)))
          have hD2I : D2 ≠ I := Ne.symm (Nat.ne_of_lt (l12 (I, it) (by k_mem)))
          have hD2I2 : D2 ≠ I2 := Ne.symm (Nat.ne_of_lt (l12 (I2, it2) (by k_mem)))
          have hD2o : ∀ p ∈ ol ++ fl, p.1 ≠ D2 := fun p hp => Nat.ne_of_lt (l12 p (.tail _ (.tail _ (.tail _ (.tail _ (.tail _ hp))))))
          have hI2L : I2 ≠ L' + 1 := fun e => hnI2 _ (.head _) e.symm
          have N13 : News g L' h' ((L' + 1, oc) :: (D2, listOf (List.toArray us) 0) :: (I2, it2) :: (I, it) :: (ol ++ fl)) := News.sub N12 (fun p hp => by
            rcases List.mem_cons.mp hp with rfl | hp
            · k_mem
            rcases List.mem_cons.mp hp with rfl | hp
            · k_mem
            rcases List.mem_cons.mp hp with rfl | hp
            · k_mem
            rcases List.mem_cons.mp hp with rfl | hp
            · k_mem
            exact .tail _ (.tail _ (.tail _ (.tail _ (.tail _ (.tail _ hp))))))
          refine store_cell F12 N13 (by
            intro p hp
            rcases List.mem_cons.mp hp with rfl | hp
            · exact hD2L
            rcases List.mem_cons.mp hp with rfl | hp
            · exact hI2L
            rcases List.mem_cons.mp hp with rfl | hp
            · exact hIL
            · exact hor p hp) rfl hoc (fun h14 oc14 F14 N14 hoc14 => ?_) rfl rfl
          clear N12 N13 F12 F11 N11
          k_steps
          exact TurnK.intro (news' := (L' + 1, oc14) :: (D2, listOf (List.toArray us) 0) :: (I, it) :: (ol ++ fl)) F14 N14 (fun p hp => by
            rcases List.mem_cons.mp hp with rfl | hp
            · k_mem
            rcases List.mem_cons.mp hp with rfl | hp
            · k_mem
            rcases List.mem_cons.mp hp with rfl | hp
            · k_mem
            exact .tail _ (.tail _ (.tail _ hp))) (fun p hp => by
            rcases List.mem_cons.mp hp with rfl | hp
            · exact Ne.symm hI2L
            rcases List.mem_cons.mp hp with rfl | hp
            · exact hD2I2
            · exact hnI2 p (.tail _ (.tail _ hp))) ⟨oc14, D2, wls ++ zs, us, 0, hoc14, rfl, hSu, hWd.next hy hA, mw, mf, hD2L, hD2I, hD2o⟩
      · rintro m₂ news₂ h tk ⟨oc, wl, wls, wout, c3, hoc, rfl, hSw, hWd, mw, mf2, hwL, hwI, hwo⟩ F9 N9
        clear F8 N8
        have hWide : ∀ z, z ∈ wls ↔ WideOf (nmOf W c) z := by
          rw [show (List.toArray vs2).size = (nmOf W c).length by simpa using hv2] at hWd
          exact hWd.wide
        have hwl2 : wls.length ≤ 12 := by have := hWd.2; simp only [List.size_toArray] at this; omega
        rcases hr with ⟨rfl, mf3, rfl⟩ | ⟨l, fa, out, c4, rfl, mf3, rfl, hSo, hlo⟩
        · rw [mf] at mf3
          obtain rfl : fv = .none := Option.some.inj mf3
          k_steps
          rename Fr _ _ _ _ => F15
          rename News _ _ _ _ => N15
          refine TurnK.intro (news' := [(L' + 1, oc), (wl, listOf (List.toArray wout) c3)]) F15 N15 (fun p hp => ?_) (fun p hp => ?_) ⟨oc, _, [(wl, listOf (List.toArray wout) c3)], some wls, hoc, rfl, by rw [htk]; exact hR.first hco hWide, mw, ?_, .inr ⟨wls, wl, wout, c3, rfl, rfl, rfl, hSw, by omega⟩⟩
          · simp only [List.mem_cons, List.not_mem_nil, or_false] at hp
            rcases hp with rfl | rfl | rfl <;> k_mem
          · simp only [List.mem_cons, List.not_mem_nil, or_false] at hp
            rcases hp with rfl | rfl
            · exact Ne.symm hIL
            · exact hwI
          · intro p hp
            rw [List.mem_singleton.mp hp]; exact hwL
        · rw [mf] at mf3
          obtain rfl : fv = .ref fa := Option.some.inj mf3
          k_steps
          show wpAny _ _ _ _ _ _
          rename Fr _ _ _ _ => F15
          rename News _ _ _ _ => N15
          refine comp_filter (neg := false) (ax := fa) (b := wl) (cy := L' + 1) (vs := out) (us := wout) (ss := l) (ts := wls) (oc := oc) F15 N15 rfl (fun Q' hq => nameX_L F15 mf2 hq) (.inr ⟨_, N15.get (o := listOf (List.toArray out) c4) (by simp), rfl, _, rfl⟩) hSo (by omega) (by k_mem) hoc (.inr ⟨_, N15.get (by k_mem), rfl, _, rfl⟩) hSw
            (by rfl) (by rfl) (by decide) rfl (by decide) (by rfl) (fun _ => rfl) (fun _ => rfl) (by decide) (by decide) (by rfl) (fun D h' tk out2 c' F16 N16 l2 hO => ?_)
          clear F15 N15
          k_steps
          rename Fr _ _ _ _ => F17
          rename News _ _ _ _ => N17
          have hfl : l.filter (passOf false wls) = l.filter (fun y => decide (y ∈ wls)) := rfl
          refine TurnK.intro (news' := [(L' + 1, oc), (D, listOf (List.toArray out2) c')]) F17 N17 (fun p hp => ?_) (fun p hp => ?_) ⟨oc, _, [(D, listOf (List.toArray out2) c')], _, hoc, rfl, by rw [htk]; exact hR.more hco hWide, mw, ?_, .inr ⟨_, D, out2, c', rfl, rfl, rfl, hO, ?_⟩⟩
          · simp only [List.mem_cons, List.not_mem_nil, or_false] at hp
            rcases hp with rfl | rfl | rfl <;> k_mem
          · simp only [List.mem_cons, List.not_mem_nil, or_false] at hp
            rcases hp with rfl | rfl
            · exact Ne.symm hIL
            · exact Ne.symm (l2 (I, it) (by k_mem))
          · intro p hp
            rw [List.mem_singleton.mp hp]; exact Ne.symm (l2 (L' + 1, oc) (by k_mem))
          · exact Nat.le_trans (List.length_filter_le _ _) hlo
  · rintro m₁ news₁ h tk ⟨oc, ov, fl, r, hoc, rfl, hR, mw, hfc, hr⟩ F2 N2
    clear F1 N1
    rw [show (List.toArray vs).size = cs.length by simpa using hI.length, List.take_length] at hR
    rcases hr with ⟨rfl, mf, rfl⟩ | ⟨l, fa, out, c4, rfl, mf, rfl, hSo, hlo⟩
    · k_steps
      (try dsimp only)
      exact retN _ _ (fun c o e _ => F2.keep _ _ (kg _ _ e)) hR
    · k_steps
      show wpAny _ _ _ _ _ _
      have hol := hSo.length
      have hFa : h.IsList fa (List.toArray out) := ⟨_, N2.get (o := listOf (List.toArray out) c4) (by simp), rfl, _, rfl⟩
      refine comp_pairs (ax := fa) (vs := out) (ss := l) rfl (fun Q' hq => nameX_L F2 mf hq) hFa hSo (by omega) (by rfl) rfl (by decide) (by decide) rfl (fun _ => rfl) (by decide) (fun D h' tk out2 c' ps hk ha ho hP hps => ?_) (by intro _; rfl) (by intro _; rfl)
      have F3 := Fr.behind0 F2 hk
      have N3 := News.made F2 (News.behind0 N2 hk) ho ha
      clear F2 N2 hk
      have hpl := hP.length
      have hpl2 := congrArg List.length hps
      simp only [List.length_map] at hpl2
      k_steps
      show wpAny _ _ _ _ _ _
      refine dict_pairsK F3 N3 (modules_low T'.nolimit) rfl ho hP (by omega) (fun E2 oe h' tk F4 N4 lo hdd => ?_)
      k_steps
      show wpAny _ _ _ _ _ _
      have hkl := foldl_len ps []
      simp only [List.length_nil] at hkl
      refine sorted_dictK F4 N4 rfl lo (Heap.dictOf_iff.mpr ⟨oe, (N4 _ (.head _)).1, hdd⟩) (by omega) (fun B h' tk vs' ss' c5 F5 N5 hS5 hperm hcan => ?_)
      have hl5 := hS5.length
      have hpl5 := hperm.length_eq
      simp only [List.length_map] at hpl5
      k_steps
      show wpAny _ _ _ _ _ _
      refine tuple_listK F5 N5 (vs := vs') ⟨_, (N5 _ (.head _)).1, rfl, _, rfl⟩ (by omega) (fun D6 h6 F6 N6 l6 => ?_)
      k_steps
      (try dsimp only)
      refine retT D6 vs' ss' _ _ (fun b o e _ => F6.keep _ _ (kg _ _ e)) (fresh_of kg N6) (N6 _ (.head _)).1 hS5 (by omega) ⟨hR.1, hcan, fun y => ?_⟩
      rw [hperm.mem_iff, foldl_keys, hps, hR.2]
      simp
end
end

section
def lawNames : List Str := [Str.ofString "Latn", Str.ofString "Cyrl", Str.ofString "Hani", Str.ofString "Hira", Str.ofString "Kana", Str.ofString "Hang", Str.ofString "Bopo", Str.ofString "Zyyy", Str.ofString "Zinh", Str.ofString "Grek"]
def DeckO (w : World) (o : Obj) (C : Addr) (k : Int) : Prop := ∃ t3, o.IsDictOf (PySem.strKind PR w) (deckKvs C k t3)

section
variable {w : World} {mg mb : Str → Option Value} {mean : ExcName → Option Value} {loose : List Str} {h₀ : Heap} {dp un : Nat} {fr : Option (List Env)} {gd : Option (List Code)} {s : Shared} {Q : Value → Shared → Prop} {E : Value → Shared → Prop}

theorem law_names_ok
    (kp : ∀ b o, h₀.get? b = some o → s.heap.get? b = some o) (X : (hd.heap_1 w.params).In h₀) (T : Top hVw loose mean mg mb h₀) (hdp : dp ≤ 900) (hun : un ≤ 9000)
    (ret : ∀ D vs c h' tk', KeepBut [] s.heap h' → s.heap.get? D = none → h'.get? D = some (listOf (List.toArray vs) c) → StrsAre vs lawNames → Q (.ref D) { s with heap := h', toks := tk' }) :
    wpAny (model PR w) (AX dp un fr gd) (call (.ref 182) []) Q E s := by
  refine wpAny_call ?_
  refine' code_fn (news := []) (binds := []) ?k1 ?k2 ?k3 ?k4 ?k6 ?k7 ?k8 ?k9 ?kB ?_ ?c2 ?c3 ?c4 ?c5
  case k1 => exact kp
  case k2 => exact X
  case k3 => exact T
  case k4 => (intro q hq; exact nomatch hq)
  case k6 => k_is
  case k7 => k_is
  case k8 => (simp only [recursionLimit] at *; omega)
  case k9 => first | exact BindsTo.of_eq rfl | exact binds_K (X.keeps kp) rfl (by k_is) rfl rfl rfl
  case kB => exact locs rfl
  case c2 => exact rfl
  case c3 => exact rfl
  case c4 => exact rfl
  case c5 => decide
  intro g L' h₁ hg hkg hgs F N X' T'
  dsimp only
  k_fold
  have kg : ∀ b o, s.heap.get? b = some o → g.get? b = some o := fun b o e => hkg b o e (fun h => nomatch h)
  k_steps
  (try dsimp only)
  rename Fr _ _ _ _ => F1
  rename News _ _ _ _ => N1
  exact ret _ _ _ _ _ (fun b o e _ => F1.keep _ _ (kg _ _ e)) (fresh_of kg N1) (N1 _ (.head _)).1 (.cons _ _ (.cons _ _ (.cons _ _ (.cons _ _ (.cons _ _ (.cons _ _ (.cons _ _ (.cons _ _ (.cons _ _ (.cons _ _ .nil))))))))))

theorem law_draw_N {g : Heap} {L : Addr} {m : Str → Option Value} {D C : Addr} {oD : Obj} {rest : List (Addr × Obj)} {tb : Tok} {k b : Int} {vs : List Value} {ns : List Int}
    (F : Fr g L s.heap m) (N : News g L s.heap ((D, oD) :: rest)) (hr : ∀ p ∈ rest, p.1 ≠ D) (X : (hd.heap_1 w.params).In g) (T : Top hVw loose mean mg mb g) (hdp : dp ≤ 900) (hun : un ≤ 9000)
    (hD : DeckO w oD C k) (hC : g.IsList C (List.toArray vs)) (hi : IntsAre vs ns) (hns : ∀ n ∈ ns, 0 ≤ n ∧ n < 1000000007) (hln : ns.length ≤ 63) (hk : 0 ≤ k) (hk2 : k < 1000) (hb2 : b < 1000) (hb : 0 < b)
    (ret : ∀ v t oD' h' tk', 0 ≤ v → v < b → Fr g L h' m → News g L h' ((D, oD') :: rest) → DeckO w oD' C (k + 1) → Q (.int v t) { s with heap := h', toks := tk' }) :
    wpAny (model PR w) (AX dp un fr gd) (call (.ref 201) [.ref D, .int b tb]) Q E s := by
  obtain ⟨t3, hD⟩ := hD
  have h0 : g.get? D = none := (N _ (.head _)).2.2
  have hDL : D ≠ L := (N _ (.head _)).2.1
  refine draw_ok F.keep X T hdp hun (Heap.dictOf_iff.mpr ⟨oD, (N _ (.head _)).1, hD⟩) h0 (hC.at fun o e => F.keep _ o e) hi hns hln hk hk2 hb2 hb (fun v t t3' h' tk' hv0 hv hkb hD' => ?_)
  obtain ⟨oD', ho', hd'⟩ := Heap.dictOf_iff.mp hD'
  refine ret v t oD' h' tk' hv0 hv (Fr.behind F hkb (by simpa using Ne.symm hDL) (by simpa using h0)) (fun p hp => ?_) ⟨t3', hd'⟩
  rcases List.mem_cons.mp hp with rfl | hp
  · exact ⟨ho', hDL, h0⟩
  · exact ⟨hkb _ _ (N p (.tail _ hp)).1 (by simpa using hr p hp), (N p (.tail _ hp)).2⟩
end

section
variable {K : Type} [DecidableEq K]
theorem valueAt_cons (p : K × Value) (kvs : List (K × Value)) (k : K) : valueAt (p :: kvs) k = if p.1 = k then some p.2 else valueAt kvs k := by
  unfold valueAt
  rw [List.find?_cons]
  by_cases h : p.1 = k <;> simp [h]
theorem valueAt_append (a b : List (K × Value)) (k : K) : valueAt (a ++ b) k = (valueAt a k).or (valueAt b k) := by
  induction a with
  | nil => simp [valueAt]
  | cons p a ih =>
    rw [List.cons_append, valueAt_cons, valueAt_cons, ih]
    split <;> simp
theorem valueAt_map (kvs : List (K × Value)) (k e : K) (v : Value) : valueAt (kvs.map (fun kv => if kv.1 = k then (kv.1, v) else kv)) e = if e = k then (valueAt kvs e).map (fun _ => v) else valueAt kvs e := by
  induction kvs with
  | nil => simp [valueAt]
  | cons p a ih =>
    rw [List.map_cons, valueAt_cons, valueAt_cons, ih]
    by_cases h1 : p.1 = k <;> by_cases h2 : p.1 = e <;> by_cases h3 : e = k <;> simp_all
theorem valueAt_stored_self (kvs : List (K × Value)) (k : K) (v : Value) : valueAt (stored kvs k v) k = some v := by
  unfold stored
  split
  · rename_i h
    rw [valueAt_map, if_pos rfl]
    obtain ⟨q, hq, e⟩ := List.any_eq_true.mp h
    have e' : q.1 = k := by simpa using e
    have : (valueAt kvs k).isSome := by
      unfold valueAt
      rw [Option.isSome_map, List.find?_isSome]
      exact ⟨q, hq, by simpa using e'⟩
    obtain ⟨x, hx⟩ := Option.isSome_iff_exists.mp this
    rw [hx]; rfl
  · rename_i h
    have : valueAt kvs k = none := by
      unfold valueAt
      rw [Option.map_eq_none_iff, List.find?_eq_none]
      intro x hx hxk
      exact h (List.any_eq_true.mpr ⟨x, hx, hxk⟩)
    rw [valueAt_append, this]
    simp [valueAt]
theorem valueAt_stored_ne (kvs : List (K × Value)) {k e : K} (v : Value) (h : e ≠ k) : valueAt (stored kvs k v) e = valueAt kvs e := by
  unfold stored
  split
  · rw [valueAt_map, if_neg h]
  · rw [valueAt_append]
    have : valueAt [(k, v)] e = none := by unfold valueAt; simp [Ne.symm h]
    rw [this]; simp
end

section
variable {prog : Program} {w : World} {A : Around} {E : Value → Shared → Prop} {s : Shared} {h₀ : Heap} {L d : Addr} {m : Str → Option Value} {rest : List (Addr × Obj)} {o : Obj} {K : Type} [DecidableEq K] {knd : KeyKind prog w K}
theorem set_head {kvs : List (K × Value)} {k : K} {key v : Value} {Q : Unit → Shared → Prop} (F : Fr h₀ L s.heap m) (N : News h₀ L s.heap ((d, o) :: rest)) (hr : ∀ p ∈ rest, p.1 ≠ d) (hd : o.IsDictOf knd kvs) (hkey : knd.is k key = true)
    (hz : kvs.length ≤ 1000)
    (h : ∀ h' o', Fr h₀ L h' m → News h₀ L h' ((d, o') :: rest) → o'.IsDictOf knd (stored kvs k v) → Q () { s with heap := h', toks := s.toks + 1 }) :
    wpAny (model prog w) A (setItem (.ref d) key v) Q E s := by
  have hm := N (d, o) (.head _)
  refine wpAny_setItem_pairs (hsz := by rw [sizeLine_eq]; omega) hkey (Heap.dictOf_iff.mpr ⟨o, hm.1, hd⟩) fun h' hmm hs => ?_
  obtain ⟨o', ho', hd'⟩ := Heap.dictOf_iff.mp hmm
  exact h h' o' (F.change hs hm.2.1 hm.2.2) (N.setHead hr hs ho') hd'
theorem News.ne {h : Heap} {news : List (Addr × Obj)} {p q : Addr × Obj} (N : News h₀ L h news) (hp : p ∈ news) (hq : q ∈ news) (hne : p.2 ≠ q.2) : p.1 ≠ q.1 := by
  intro e
  have h1 := (N p hp).1
  rw [e, (N q hq).1] at h1
  exact hne (Option.some.inj h1).symm
theorem tup_ne_dict {ws : Array Value} {kvs : List (K × Value)} (h : o.IsDictOf knd kvs) : tupOf ws ≠ o := by
  rintro rfl
  obtain ⟨es, ep, h1, h2, _⟩ := h
  exact absurd h1.1 (by simp)
theorem tup_ne_cell {ws : Array Value} {v : Option Value} (h : o.data = .cell v) : tupOf ws ≠ o := by
  rintro rfl
  exact absurd h (by simp)
theorem tup_ne_iter {ws : Array Value} {ax : Addr} {i : Nat} (h : ObL ax i o) : tupOf ws ≠ o := by
  rintro rfl
  exact absurd h.2 (by simp)
end
end
end

section
section
variable {w : World} {mg mb : Str → Option Value} {mean : ExcName → Option Value} {loose : List Str} {h₀ : Heap} {dp un : Nat} {fr : Option (List Env)} {gd : Option (List Code)} {s : Shared} {Q : Value → Shared → Prop} {E : Value → Shared → Prop}
theorem law_deck_ok {S : Addr} {vs : List Value} {xs : List Int}
    (kp : ∀ b o, h₀.get? b = some o → s.heap.get? b = some o) (X : (hd.heap_1 w.params).In h₀) (T : Top hVw loose mean mg mb h₀) (hdp : dp ≤ 900) (hun : un ≤ 9000)
    (hS : h₀.IsList S (List.toArray vs)) (hI : IntsAre vs xs) (hlen : xs.length ≤ 63)
    (ret : ∀ D C oD ws ns c h' tk', KeepBut [] s.heap h' → s.heap.get? D = none → s.heap.get? C = none → D ≠ C → h'.get? D = some oD → DeckO w oD C 0 → h'.get? C = some (listOf (List.toArray ws) c) → IntsAre ws ns → (∀ n ∈ ns, 0 ≤ n ∧ n < 1000000007) → ns.length ≤ 63 → Q (.ref D) { s with heap := h', toks := tk' }) :
    wpAny (model PR w) (AX dp un fr gd) (call (.ref 194) [.ref S]) Q E s := by
  refine wpAny_call ?_
  refine' code_fn (news := []) (binds := [(Str.ofString "script", .ref S)]) ?k1 ?k2 ?k3 ?k4 ?k6 ?k7 ?k8 ?k9 ?kB ?_ ?c2 ?c3 ?c4 ?c5
  case k1 => exact kp
  case k2 => exact X
  case k3 => exact T
  case k4 => (intro q hq; exact nomatch hq)
  case k6 => k_is
  case k7 => k_is
  case k8 => (simp only [recursionLimit] at *; omega)
  case k9 => first | exact BindsTo.of_eq rfl | exact binds_K (X.keeps kp) rfl (by k_is) rfl rfl rfl
  case kB => exact locs rfl
  case c2 => exact rfl
  case c3 => exact rfl
  case c4 => exact rfl
  case c5 => decide
  intro g L' h₁ hg hkg hgs F N X' T'
  dsimp only
  k_fold
  have kg : ∀ b o, s.heap.get? b = some o → g.get? b = some o := fun b o e => hkg b o e (fun h => nomatch h)
  have hSg : g.IsList S (List.toArray vs) := hS.at fun o e => hg _ o e
  have hlen2 := hI.length
  k_steps
  (try dsimp only)
  rename IntsAre ys _ => hII
  rename_i d0 _ _ _ _ _ _ _ _ _ _ _ _ _ _ _ _ _ _ Cx _ tk1 _ _ hne h2 oD F1 N1 hdd
  have up : ∀ b o, s.heap.get? b = some o → h2.get? b = some o := fun b o e => F1.keep _ _ (kg _ _ e)
  have fr : ∀ {b : Addr}, g.get? b = none → s.heap.get? b = none := fun {b} hb => by
    cases q : s.heap.get? b with
    | none => rfl
    | some o' => exact absurd (hb.symm.trans (kg _ _ q)) (by simp)
  refine ret _ Cx oD ys _ _ h2 _ (fun b o e _ => up _ _ e) (fr (N1 (d0, oD) (by k_mem)).2.2) (fr (N1 (Cx, _) (.head _)).2.2) hne.2 (N1 (d0, oD) (by k_mem)).1 ⟨_, hdd⟩ (N1 (Cx, _) (.head _)).1 hII ?_ ?_
  · intro n hn
    obtain ⟨k, _, rfl⟩ := List.mem_map.mp hn
    exact ⟨Int.fmod_nonneg_of_pos _ (by decide), Int.fmod_lt_of_pos _ (by decide)⟩
  · simp; omega
end
end
section
local macro_rules | `(tactic| walk_at "exec While Compare cons nil") => `(tactic| with_reducible refine hold ?_)
local macro_rules | `(tactic| walk_at "exec For Name Name cons nil") => `(tactic| with_reducible refine hold ?_)
local macro_rules | `(tactic| walk_at "exec For Name Call cons nil") => `(tactic| with_reducible refine hold ?_)
local macro_rules | `(tactic| walk_at "exec For Name Subscript cons nil") => `(tactic| with_reducible refine hold ?_)
local macro_rules | `(tactic| walk_at "exec For Tuple Tuple cons nil") => `(tactic| with_reducible refine hold ?_)
local macro_rules | `(tactic| walk_at "eval ListComp Name cons") => `(tactic| with_reducible refine hold ?_)
local macro_rules | `(tactic| walk_at "eval ListComp Tuple cons") => `(tactic| with_reducible refine hold ?_)
local macro_rules | `(tactic| walk_at "eval ListComp Subscript cons") => `(tactic| with_reducible refine hold ?_)
local macro_rules | `(tactic| walk_at "call ref") => `(tactic| with_reducible refine hold ?_)
local macro_rules | `(tactic| walk_at "call builtin:sorted") => `(tactic| with_reducible refine hold ?_)
local macro_rules | `(tactic| walk_at "call type:tuple") => `(tactic| with_reducible refine hold ?_)
local macro_rules | `(tactic| walk_at "call type:list") => `(tactic| with_reducible refine hold ?_)
local macro_rules | `(tactic| walk_at "call builtin:list.append") => `(tactic| with_reducible refine hold ?_)
local macro_rules | `(tactic| walk_at "compareOp In str ref") => `(tactic| with_reducible refine hold ?_)
local macro_rules | `(tactic| walk_at "compareOp NotIn str ref") => `(tactic| with_reducible refine hold ?_)
local macro_rules | `(tactic| k_all) => `(tactic| assumption)
local macro_rules | `(tactic| walk_at "pyIter ref") => `(tactic| with_reducible refine hold ?_)

section
local macro_rules | `(tactic| walk_at "setItem ref int") => `(tactic| with_reducible refine hold ?_)
local macro_rules | `(tactic| walk_at "exec Assign cons ListComp") => `(tactic| with_reducible refine hold ?_)
local macro_rules | `(tactic| walk_at "call type:dict") => `(tactic| with_reducible refine hold ?_)

theorem nameB_C {M : Model} {A : Around} {E : Value → Shared → Prop} {s : Shared} {B : Heap} {C c : Addr} {m : Str → Option Value} {o : Obj} {scope : Scope} {cl : List (Str × Addr)} {env : Env} {x : Str} {pos : Pos} {v : Value} {Q : Value → Shared → Prop}
    (F : Fr B C s.heap m) (hc : cl.lookup x = some c) (hB : B.get? c = some o) (hd : o.data = .cell (some v)) (h : Q v s)
    (hk : (compEnvC scope cl C env).scope.kind = .function) (hx : (compEnvC scope cl C env).kindOf x = some .cell) (hb : (x == ("__debug__" : Str)) = false := by decide) :
    wpAny M A (eval (.Name x pos) (compEnvC scope cl C env)) Q E s := wpAny_Name (wpAny_loadName_cell hk hx hc ⟨o, F.keep _ _ hB, hd⟩ h) hb
local macro_rules | `(tactic| walk_at "eval Name") => `(tactic| (k_here; (with_reducible show wpAny _ _ (eval (Expr.Name _ _) (compEnvC _ _ _ _)) _ _ _); k_dflt (refine' nameB_C ?F ?c ?B ?d ?_ ?a ?b; (case a => rfl); (case b => rfl); (case F => k_asm); (case c => rfl); (case B => assumption); (case d => assumption); k_whole)))

def lawCodes : List Int := [97, 98, 99, 100, 101, 102, 103, 104, 105, 106]

/-- the table of signs in a ledger -/
def WTl (tl : List (Addr × Obj)) (kvs : List (Int × Value)) (W : Signs) (cs : List Int) : Prop :=
  ∀ c ∈ cs, (∃ t tn b vs, valueAt kvs c = some (.ref t) ∧ (t, tupOf (List.toArray [Value.str (W c).1 tn, Value.ref b])) ∈ tl ∧ (b, tupOf (List.toArray vs)) ∈ tl ∧ StrsAre vs (W c).2) ∧ (W c).1 ∈ lawNames ∧ (∀ y ∈ (W c).2, y ∈ lawNames) ∧ (W c).2.length ≤ 3

section
variable {w : World} {mg mb : Str → Option Value} {mean : ExcName → Option Value} {loose : List Str} {h₀ : Heap} {dp un : Nat} {fr : Option (List Env)} {gd : Option (List Code)} {s : Shared} {Q : Value → Shared → Prop} {E : Value → Shared → Prop}
theorem law_world_ok {D C : Addr} {oD : Obj} {vs : List Value} {ns : List Int}
    (kp : ∀ b o, h₀.get? b = some o → s.heap.get? b = some o) (X : (hd.heap_1 w.params).In h₀) (T : Top hVw loose mean mg mb h₀) (hdp : dp ≤ 890) (hun : un ≤ 8900)
    (hoD : s.heap.get? D = some oD) (hD0 : h₀.get? D = none) (hD : DeckO w oD C 0) (hC : h₀.IsList C (List.toArray vs)) (hi : IntsAre vs ns) (hns : ∀ n ∈ ns, 0 ≤ n ∧ n < 1000000007) (hln : ns.length ≤ 63)
    (ret : ∀ wa W k oD' h' tk', KeepBut [D] s.heap h' → s.heap.get? wa = none → h'.get? D = some oD' → DeckO w oD' C k → 0 ≤ k → k ≤ 100 → (∃ ow kvs tl, ow.IsDictOf (PySem.intKind PR w) kvs ∧ (wa == sysModules) = false ∧ WTl tl kvs W lawCodes ∧ ∀ p ∈ (wa, ow) :: tl, h'.get? p.1 = some p.2 ∧ s.heap.get? p.1 = none) → NoQ W lawCodes → (∀ c ∈ lawCodes, (W c).2.length ≤ 3) → Q (.ref wa) { s with heap := h', toks := tk' }) :
    wpAny (model PR w) (AX dp un fr gd) (call (.ref 206) [.ref D]) Q E s := by
  refine wpAny_call ?_
  refine' code_fnC (news := [(D, oD)]) (binds := [(Str.ofString "deck", .ref D)]) ?k1 ?k2 ?k3 ?k4 ?k6 ?k7 ?k8 ?k9 ?kB ?kD ?_ ?c2 ?c3 ?c4
  case k1 => exact kp
  case k2 => exact X
  case k3 => exact T
  case k4 => (intro q hq; (obtain rfl := List.mem_singleton.mp hq; exact ⟨hoD, hD0⟩))
  case k6 => k_is
  case k7 => k_is
  case k8 => (simp only [recursionLimit] at *; omega)
  case k9 => first | exact BindsTo.of_eq rfl | exact binds_K (X.keeps kp) rfl (by k_is) rfl rfl rfl
  case kB => exact rfl
  case kD => decide +kernel
  case c2 => exact rfl
  case c3 => exact rfl
  case c4 => exact rfl
  intro g L' h₁ tk₁ cells hg hkg hgs F N Y X' T' lN
  k_cells Y
  simp only [List.cons_append, List.nil_append] at N
  show wpAny _ _ _ _ _ _
  dsimp only
  k_fold
  have hCg : g.IsList C (List.toArray vs) := hC.at fun o e => hg _ o e
  k_steps
  show wpAny _ _ _ _ _ _
  rename Fr _ _ _ _ => F1
  rename News _ _ _ _ => N1
  refine wpAny_For ?_
  k_steps
  show wpAny _ _ _ _ _ _
  rename_i om o2 hom ho2' wd _ ow lo hs1 fs1 hi1 fi1 l1 h1
  have ho2 : o2.data = .cell (some (.ref D)) := ho2'
  clear ho2'
  have hdD : D ≠ L' + 1 := by have := lN _ (.head _); dsimp only at this; exact Nat.ne_of_lt (Nat.lt_succ_of_lt this)
  have hdD2 : D ≠ L' + 1 + 1 := by have := lN _ (.head _); dsimp only at this; exact Nat.ne_of_lt (Nat.lt_succ_of_lt (Nat.lt_succ_of_lt this))
  have hwD : wd ≠ D := Ne.symm (Nat.ne_of_lt l1.2.2)
  have hwL : wd ≠ L' + 1 := Ne.symm (Nat.ne_of_lt l1.2.1)
  have hwL2 : wd ≠ L' + 1 + 1 := Ne.symm (Nat.ne_of_lt l1.1)
  obtain ⟨cvs, hCvs, hCi⟩ : ∃ cvs, g.IsList 189 (List.toArray cvs) ∧ IntsAre cvs lawCodes := by
    revert X'; k_fill; intro X'
    exact ⟨_, ⟨_, X' 189 _ (by k_is), rfl, _, rfl⟩, .cons _ _ (.cons _ _ (.cons _ _ (.cons _ _ (.cons _ _ (.cons _ _ (.cons _ _ (.cons _ _ (.cons _ _ (.cons _ _ .nil)))))))))⟩
  refine for_list (items := List.toArray cvs) (fun ax i m news => m (Str.ofString "w") = some (.ref wd) ∧ ∃ ow om ov oD k kvs W tl, om.data = .cell ov ∧ news = (wd, ow) :: (L' + 1 + 1, om) :: (L' + 1, o2) :: (D, oD) :: tl ∧ DeckO w oD C k ∧ 0 ≤ k ∧ k ≤ 5 * (i : Int) ∧
    ow.IsDictOf (PySem.intKind PR w) kvs ∧ kvs.length ≤ i ∧ WTl tl kvs W (lawCodes.take i) ∧ (∀ p ∈ tl, p.1 ≠ wd ∧ p.1 ≠ L' + 1 + 1 ∧ p.1 ≠ L' + 1 ∧ p.1 ≠ D)) rfl F1 N1
    ⟨rfl, ow, om, _, oD, 0, [], fun _ => (⟨#[]⟩, []), [], hom, rfl, hD, by omega, by omega, hi1, by simp, (fun c h => absurd h (by simp)), by simp⟩ ?_ ?_ ?_
  · rintro i m news h - F N
    exact hCvs.at fun o e => F.keep _ o e
  · rintro I i v it m₁ news₁ h tk hi2 hv hOb ⟨mw, ow, om, ov, oD, k, kvs, W, tl, hom, rfl, hD, hk0, hk1, hdo, hkl, hW, htl⟩ lI hnI hlt F2 N2
    clear F1 N1
    obtain ⟨c, t, rfl, hc⟩ := IntsAre.getI hCi (by simpa using hv)
    have htk : lawCodes.take (i + 1) = lawCodes.take i ++ [c] := by rw [List.take_add_one, hc]; rfl
    have hi3 : i < 10 := (List.getElem?_eq_some_iff.mp hc).1
    refine wpAny_assign_Name (storeX_L F2 N2 (fun h' F3 N3 => ?_) rfl rfl)
    clear F2 N2
    k_steps
    show wpAny _ _ _ _ _ _
    refine law_names_ok F3.keep X' T' (by (try dsimp only); omega) (by (try dsimp only); omega) (fun Dn nvs cn h' tk' hk hf hDn hNs => ?_)
    have F4 := Fr.behind0 F3 hk
    have N4 := News.made F3 (News.behind0 N3 hk) hDn hf
    have hDnf : ∀ p ∈ (I, it) :: (wd, ow) :: (L' + 1 + 1, om) :: (L' + 1, o2) :: (D, oD) :: tl, p.1 ≠ Dn := fun p hp e => by
      have := (N3 p hp).1
      rw [e, hf] at this; cases this
    clear hk F3 N3
    k_steps
    show wpAny _ _ _ _ _ _
    have hrest : ∀ p ∈ (Dn, listOf (List.toArray nvs) cn) :: (I, it) :: (wd, ow) :: (L' + 1 + 1, om) :: (L' + 1, o2) :: tl, p.1 ≠ D := by
      intro p hp
      rcases List.mem_cons.mp hp with rfl | hp
      · exact Ne.symm (hDnf (D, oD) (by k_mem))
      rcases List.mem_cons.mp hp with rfl | hp
      · exact Ne.symm (hnI (D, oD) (by k_mem))
      rcases List.mem_cons.mp hp with rfl | hp
      · exact hwD
      rcases List.mem_cons.mp hp with rfl | hp
      · exact Ne.symm hdD2
      rcases List.mem_cons.mp hp with rfl | hp
      · exact Ne.symm hdD
      · exact (htl p hp).2.2.2
    have N5 : News g L' h' ((D, oD) :: (Dn, listOf (List.toArray nvs) cn) :: (I, it) :: (wd, ow) :: (L' + 1 + 1, om) :: (L' + 1, o2) :: tl) := News.sub N4 (fun p hp => by
      rcases List.mem_cons.mp hp with rfl | hp
      · k_mem
      rcases List.mem_cons.mp hp with rfl | hp
      · k_mem
      rcases List.mem_cons.mp hp with rfl | hp
      · k_mem
      rcases List.mem_cons.mp hp with rfl | hp
      · k_mem
      rcases List.mem_cons.mp hp with rfl | hp
      · k_mem
      rcases List.mem_cons.mp hp with rfl | hp
      · k_mem
      · exact .tail _ (.tail _ (.tail _ (.tail _ (.tail _ (.tail _ hp))))))
    refine law_draw_N F4 N5 hrest X' T' (by (try dsimp only); omega) (by (try dsimp only); omega) hD hCg hi hns hln hk0 (by omega) (by omega) (by omega) (fun v1 t1 oD1 h' tk' hv0 hv1 F6 N6 hD1 => ?_)
    clear F4 N4 N5
    have hnl := hNs.length
    obtain ⟨y, ty, hy, hyn⟩ : ∃ y ty, nvs[v1.toNat]? = some (.str y ty) ∧ y ∈ lawNames := by
      have hlt : v1.toNat < nvs.length := by rw [hnl]; show v1.toNat < 10; omega
      obtain ⟨y, ty, e, h2⟩ := StrsAre.get hNs (List.getElem?_eq_getElem hlt)
      exact ⟨y, ty, by rw [List.getElem?_eq_getElem hlt, e], List.mem_of_getElem? h2⟩
    refine item_listV (vs := nvs) ⟨_, N6.get (o := listOf (List.toArray nvs) cn) (by k_mem), rfl, _, rfl⟩ hv0 (by omega) hy ?_ (by with_unfolding_all rfl)
    k_steps
    show wpAny _ _ _ _ _ _
    refine law_draw_N F6 N6 hrest X' T' (by (try dsimp only); omega) (by (try dsimp only); omega) hD1 hCg hi hns hln (by omega) (by omega) (by omega) (by omega) (fun v2 t2 oD2 h' tk' hv20 hv21 F7 N7 hD2 => ?_)
    clear F6 N6
    k_steps
    rename_i lm hm Fm Nm lmT
    obtain ⟨mvs, N8, hMs, hMl⟩ : ∃ mvs, News g L' hm ((L' + 1 + 1, om) :: (lm, listOf (List.toArray mvs) 0) :: (D, oD2) :: (I, it) :: (wd, ow) :: (L' + 1, o2) :: tl) ∧ (∃ ss, StrsAre mvs ss ∧ ∀ y ∈ ss, y ∈ lawNames) ∧ mvs.length = 9 := by
      refine ⟨_, News.sub Nm (fun p hp => by
        rcases List.mem_cons.mp hp with rfl | hp
        · k_mem
        rcases List.mem_cons.mp hp with rfl | hp
        · exact .head _
        rcases List.mem_cons.mp hp with rfl | hp
        · k_mem
        rcases List.mem_cons.mp hp with rfl | hp
        · k_mem
        rcases List.mem_cons.mp hp with rfl | hp
        · k_mem
        rcases List.mem_cons.mp hp with rfl | hp
        · k_mem
        · exact .tail _ (.tail _ (.tail _ (.tail _ (.tail _ (.tail _ (.tail _ (.tail _ hp)))))))), ⟨_, .cons _ _ (.cons _ _ (.cons _ _ (.cons _ _ (.cons _ _ (.cons _ _ (.cons _ _ (.cons _ _ (.cons _ _ .nil)))))))), by decide +kernel⟩, rfl⟩
    have hlmD : lm ≠ D := Ne.symm (Nat.ne_of_lt lmT.2.1)
    have hlmI : lm ≠ I := Ne.symm (Nat.ne_of_lt lmT.2.2.2.1)
    have hlmw : lm ≠ wd := Ne.symm (Nat.ne_of_lt lmT.2.2.2.2.1)
    have hlmL2 : lm ≠ L' + 1 + 1 := Ne.symm (Nat.ne_of_lt lmT.2.2.2.2.2.1)
    have hlmL : lm ≠ L' + 1 := Ne.symm (Nat.ne_of_lt lmT.2.2.2.2.2.2.1)
    have hLI : I ≠ L' + 1 := fun e => hnI (L' + 1, o2) (by k_mem) e.symm
    have hL2I : I ≠ L' + 1 + 1 := fun e => hnI (L' + 1 + 1, om) (by k_mem) e.symm
    refine store_cell Fm N8 (by
      intro p hp
      rcases List.mem_cons.mp hp with rfl | hp
      · exact hlmL2
      rcases List.mem_cons.mp hp with rfl | hp
      · exact hdD2
      rcases List.mem_cons.mp hp with rfl | hp
      · exact hL2I
      rcases List.mem_cons.mp hp with rfl | hp
      · exact hwL2
      rcases List.mem_cons.mp hp with rfl | hp
      · exact Nat.ne_of_lt (Nat.lt_succ_self _)
      · exact (htl p hp).2.1) rfl hom (fun h9 om2 F9 N9 hom2 => ?_) rfl rfl
    clear Fm Nm N8
    k_steps
    show wpAny _ _ _ _ _ _
    refine comp_enterA (cl := [(Str.ofString "more", L' + 1 + 1), (Str.ofString "deck", L' + 1)]) (by rfl) (by with_unfolding_all rfl) rfl (by decide) ?_ (by intro _; rfl)
    k_steps
    rename_i h10 tk10 rt ru rv hRng F10 N10 hup
    generalize hmany : (if v2 - 2 > 0 then v2 - 2 else 0) = many at hRng F10
    have hm0 : 0 ≤ many ∧ many ≤ 3 := by rw [← hmany]; split <;> omega
    have gD0 : g.get? D = none := (N10 (D, oD2) (by k_mem)).2.2
    have gDL : D ≠ L' := (N10 (D, oD2) (by k_mem)).2.1
    refine comp_range (m₀ := _) F10 [(D, oD2)] (fun p hp => by rw [List.mem_singleton.mp hp]; exact gDL) (fun p hp => by rw [List.mem_singleton.mp hp]; exact gD0) (fun i out news => ∃ oD' ss, news = [(D, oD')] ∧ DeckO w oD' C (k + 1 + 1 + (i : Int)) ∧ StrsAre out ss ∧ (∀ y ∈ ss, y ∈ lawNames) ∧ out.length = i) (by decide) rfl rfl rfl hRng hm0.1 (by omega) (by simpa using N10.get (o := oD2) (by k_mem))
      ⟨oD2, [], rfl, by simpa using hD2, .nil, by simp, rfl⟩ (fun i out news ⟨_, _, _, _, _, _, h⟩ => by omega) (fun C2 Dl it2 i2 v out c2 news h tk m hi2 hJ hT hm => ?_) rfl rfl (fun Dl h11 tk out c2 news hJ F11 hk11 hf11 hDl hN11 hne11 => ?_)
    · obtain ⟨oD', ss, rfl, hDk, hSo, hmem, hlo⟩ := hJ
      obtain ⟨F, N, nD, nI⟩ := hT
      have nD' := nD _ (.head _)
      have nI' := nI _ (.head _)
      dsimp only at nD' nI'
      have gB : ∀ b o, g.get? b = some o → (hideAll h10 ([(D, oD2)].map (·.1))).get? b = some o := fun b o e => hideAll_get _ (F10.keep b o e) (by simp; rintro rfl; rw [gD0] at e; cases e)
      have XB := X'.keeps gB
      have TB := T'.keeps gB
      have hBm : (hideAll h10 ([(D, oD2)].map (·.1))).get? (L' + 1 + 1) = some om2 := hideAll_get _ (N10.get (by k_mem)) (by simpa using Ne.symm hdD2)
      have hB2 : (hideAll h10 ([(D, oD2)].map (·.1))).get? (L' + 1) = some o2 := hideAll_get _ (N10.get (by k_mem)) (by simpa using Ne.symm hdD)
      have hBl : (hideAll h10 ([(D, oD2)].map (·.1))).get? lm = some (listOf (List.toArray mvs) 0) := hideAll_get _ (N10.get (by k_mem)) (by simpa using hlmD)
      have hBC : (hideAll h10 ([(D, oD2)].map (·.1))).IsList C (List.toArray vs) := (show g.IsList C (List.toArray vs) by assumption).at fun o e => gB _ o e
      have NN := News.sub (news' := [(D, oD'), (Dl, listOf (List.toArray out) c2), (h10.objs.size, it2)]) N (by
        intro p hp
        simp only [List.mem_cons, List.not_mem_nil, or_false] at hp
        rcases hp with rfl | rfl | rfl <;> k_mem)
      clear N
      k_steps
      show wpAny _ _ _ _ _ _
      refine law_draw_N F NN (by
        intro p hp
        simp only [List.mem_cons, List.not_mem_nil, or_false] at hp
        rcases hp with rfl | rfl
        · exact Ne.symm nD'
        · exact Ne.symm nI') XB TB (by (try dsimp only); omega) (by (try dsimp only); omega) hDk hBC hi hns hln (by omega) (by omega) (by omega) (by omega) (fun v3 t3 oD3 h' tk' hv0 hv1 F12 N12 hD3 => ?_)
      obtain ⟨ss0, hMS, hMM⟩ := hMs
      obtain ⟨z, tz, hz, hzn⟩ : ∃ z tz, mvs[v3.toNat]? = some (.str z tz) ∧ z ∈ lawNames := by
        have hlt : v3.toNat < mvs.length := by omega
        obtain ⟨y, ty, e, h2⟩ := StrsAre.get hMS (List.getElem?_eq_getElem hlt)
        exact ⟨y, ty, by rw [List.getElem?_eq_getElem hlt, e], hMM _ (List.mem_of_getElem? h2)⟩
      refine item_listV (vs := mvs) ⟨_, F12.keep _ _ hBl, rfl, _, rfl⟩ hv0 (by omega) hz ?_ (by with_unfolding_all rfl)
      refine ⟨h', tk', m, [(D, oD3)], rfl, ⟨F12, ?_, ?_, ?_⟩, oD3, ss ++ [z], rfl, ?_, hSo.append' (.cons z tz .nil), ?_, by simp; omega⟩
      · refine News.sub N12 (fun p hp => ?_)
        simp only [List.mem_cons, List.not_mem_nil, or_false] at hp
        rcases hp with rfl | rfl | rfl <;> k_mem
      · simpa using nD'
      · simpa using nI'
      · have e : (k + 1 + 1 + ((i2 + 1 : Nat) : Int)) = k + 1 + 1 + (i2 : Int) + 1 := by omega
        rw [e]; exact hD3
      · intro y hy
        rcases List.mem_append.mp hy with hy | hy
        · exact hmem y hy
        · rw [List.mem_singleton.mp hy]; exact hzn
    · obtain ⟨oD3, ss, rfl, hD3, hSo, hmem, hlo⟩ := hJ
      have hlen := hSo.length
      have hDl1 : ∀ p, p ∈ (L' + 1 + 1, om2) :: (lm, listOf (List.toArray mvs) 0) :: (D, oD2) :: (I, it) :: (wd, ow) :: (L' + 1, o2) :: tl → p.1 ≠ Dl := fun p hp e => by
        have := (N10 p hp).1
        rw [e, hf11] at this; cases this
      have N11 : News g L' h11 ((Dl, listOf (List.toArray out) c2) :: (D, oD3) :: (L' + 1 + 1, om2) :: (I, it) :: (wd, ow) :: (L' + 1, o2) :: tl) := by
        refine News.made F10 (fun p hp => ?_) hDl hf11
        rcases List.mem_cons.mp hp with rfl | hp
        · exact ⟨hN11 _ (.head _) gDL, gDL, gD0⟩
        · have hp2 : p ∈ (L' + 1 + 1, om2) :: (lm, listOf (List.toArray mvs) 0) :: (D, oD2) :: (I, it) :: (wd, ow) :: (L' + 1, o2) :: tl := by
            rcases List.mem_cons.mp hp with rfl | hp
            · k_mem
            · exact .tail _ (.tail _ (.tail _ hp))
          have hpD : p.1 ≠ D := by
            rcases List.mem_cons.mp hp with rfl | hp
            · exact Ne.symm hdD2
            · exact hrest p (.tail _ (by
                rcases List.mem_cons.mp hp with rfl | hp
                · k_mem
                rcases List.mem_cons.mp hp with rfl | hp
                · k_mem
                · exact .tail _ (.tail _ (.tail _ hp))))
          have h3 := (N10 p hp2).2.1
          exact ⟨hk11 _ _ (N10 p hp2).1 (by simp only [List.map_cons, List.map_nil, List.mem_cons, List.not_mem_nil, or_false, not_or]; exact ⟨h3, hpD⟩), (N10 p hp2).2⟩
      clear N10 F10
      k_steps
      show wpAny _ _ _ _ _ _
      have hoW : ∀ p ∈ (Dl, listOf (List.toArray out) c2) :: (D, oD3) :: (L' + 1 + 1, om2) :: (I, it) :: (L' + 1, o2) :: tl, p.1 ≠ wd := by
        intro p hp
        rcases List.mem_cons.mp hp with rfl | hp
        · exact Ne.symm (hDl1 (wd, ow) (by k_mem))
        rcases List.mem_cons.mp hp with rfl | hp
        · exact Ne.symm hwD
        rcases List.mem_cons.mp hp with rfl | hp
        · exact Ne.symm hwL2
        rcases List.mem_cons.mp hp with rfl | hp
        · exact Ne.symm (hnI (wd, ow) (by k_mem))
        rcases List.mem_cons.mp hp with rfl | hp
        · exact Ne.symm hwL
        · exact (htl p hp).1
      refine comp_pairs (ax := Dl) (vs := out) (ss := ss) rfl (fun Q' hq => nameX_L F11 rfl hq) ⟨_, N11.get (o := listOf (List.toArray out) c2) (by k_mem), rfl, _, rfl⟩ hSo (by omega) (by rfl) rfl (by decide) (by decide) rfl (fun _ => rfl) (by decide) (fun Dp h' tk out3 c3 ps hk ha ho hP hps => ?_) (by intro _; rfl) (by intro _; rfl)
      have F12 := Fr.behind0 F11 hk
      have N12 := News.made F11 (News.behind0 N11 hk) ho ha
      clear F11 N11 hk
      have hpl := hP.length
      have hpl2 := congrArg List.length hps
      simp only [List.length_map] at hpl2
      k_steps
      show wpAny _ _ _ _ _ _
      refine dict_pairsK F12 N12 (modules_low T'.nolimit) rfl ho hP (by omega) (fun E2 oe h' tk F13 N13 lo2 hdd => ?_)
      k_steps
      show wpAny _ _ _ _ _ _
      have hkl2 := foldl_len ps []
      simp only [List.length_nil] at hkl2
      refine sorted_dictK F13 N13 rfl lo2 (Heap.dictOf_iff.mpr ⟨oe, (N13 _ (.head _)).1, hdd⟩) (by omega) (fun B h' tk vs' ss' c5 F14 N14 hS5 hperm hcan => ?_)
      have hl5 := hS5.length
      have hpl5 := hperm.length_eq
      simp only [List.length_map] at hpl5
      k_steps
      show wpAny _ _ _ _ _ _
      refine tuple_listK F14 N14 (vs := vs') ⟨_, (N14 _ (.head _)).1, rfl, _, rfl⟩ (by omega) (fun Tp h15 F15 N15 l15 => ?_)
      clear F12 N12 F13 N13 F14 N14
      k_steps
      show wpAny _ _ _ _ _ _
      rename Fr _ _ _ _ => F16
      rename News _ _ _ _ => N16
      obtain ⟨t33, hD33⟩ := id hD3
      have N17 : News g L' _ ((wd, ow) :: (h15.objs.size, tupOf (List.toArray [Value.str y ty, Value.ref Tp])) :: (Tp, tupOf (List.toArray vs')) :: (L' + 1 + 1, om2) :: (L' + 1, o2) :: (D, oD3) :: (I, it) :: tl) := News.sub N16 (fun p hp => by
        rcases List.mem_cons.mp hp with rfl | hp
        · k_mem
        rcases List.mem_cons.mp hp with rfl | hp
        · exact .head _
        rcases List.mem_cons.mp hp with rfl | hp
        · exact .tail _ (.head _)
        rcases List.mem_cons.mp hp with rfl | hp
        · k_mem
        rcases List.mem_cons.mp hp with rfl | hp
        · k_mem
        rcases List.mem_cons.mp hp with rfl | hp
        · k_mem
        rcases List.mem_cons.mp hp with rfl | hp
        · k_mem
        · exact .tail _ (.tail _ (.tail _ (.tail _ (.tail _ (.tail _ (.tail _ (.tail _ (.tail _ (.tail _ (.tail _ hp)))))))))))
      have tne : ∀ (a : Addr) (ws : Array Value), (a, tupOf ws) ∈ ((wd, ow) :: (h15.objs.size, tupOf (List.toArray [Value.str y ty, Value.ref Tp])) :: (Tp, tupOf (List.toArray vs')) :: (L' + 1 + 1, om2) :: (L' + 1, o2) :: (D, oD3) :: (I, it) :: tl) → a ≠ wd ∧ a ≠ L' + 1 + 1 ∧ a ≠ L' + 1 ∧ a ≠ D ∧ a ≠ I := fun a ws hm =>
        ⟨News.ne N17 hm (.head _) (tup_ne_dict hdo), News.ne N17 hm (q := (L' + 1 + 1, om2)) (by k_mem) (tup_ne_cell hom2), News.ne N17 hm (q := (L' + 1, o2)) (by k_mem) (tup_ne_cell ho2), News.ne N17 hm (q := (D, oD3)) (by k_mem) (tup_ne_dict hD33), News.ne N17 hm (q := (I, it)) (by k_mem) (tup_ne_iter hOb)⟩
      have tTt := tne _ _ (.tail _ (.head _))
      have tTp := tne _ _ (.tail _ (.tail _ (.head _)))
      clear N16
      refine set_head F16 N17 (by
        intro p hp
        rcases List.mem_cons.mp hp with rfl | hp
        · exact tTt.1
        rcases List.mem_cons.mp hp with rfl | hp
        · exact tTp.1
        rcases List.mem_cons.mp hp with rfl | hp
        · exact Ne.symm hwL2
        rcases List.mem_cons.mp hp with rfl | hp
        · exact Ne.symm hwL
        rcases List.mem_cons.mp hp with rfl | hp
        · exact Ne.symm hwD
        rcases List.mem_cons.mp hp with rfl | hp
        · exact Ne.symm (hnI (wd, ow) (by k_mem))
        · exact (htl p hp).1) hdo (intKind_is PR w c t) (by omega) (fun h18 o18 F18 N18 hd18 => ?_)
      clear N17 F16
      k_steps
      have hci : ∀ e ∈ lawCodes.take i, e ≠ c := by
        intro e he hec
        subst hec
        have hh : ∀ i < 10, ∀ e ∈ lawCodes.take i, lawCodes[i]? ≠ some e := by decide
        exact hh i hi3 e he hc
      refine TurnK.intro (news' := (wd, o18) :: (L' + 1 + 1, om2) :: (L' + 1, o2) :: (D, oD3) :: (h15.objs.size, tupOf (List.toArray [Value.str y ty, Value.ref Tp])) :: (Tp, tupOf (List.toArray vs')) :: tl) F18 N18 (fun p hp => ?_) (fun p hp => ?_)
        ⟨mw, o18, om2, _, oD3, _, _, (fun x => if x = c then (y, ss') else W x), _, hom2, rfl, hD3, by omega, by omega, hd18, Nat.le_trans (stored_length_le _ _ _) (by omega), ?_, ?_⟩
      · simp only [List.mem_cons] at hp
        rcases hp with rfl | rfl | rfl | rfl | rfl | rfl | rfl | hp
        · k_mem
        · k_mem
        · k_mem
        · k_mem
        · k_mem
        · k_mem
        · k_mem
        · exact .tail _ (.tail _ (.tail _ (.tail _ (.tail _ (.tail _ (.tail _ hp))))))
      · simp only [List.mem_cons] at hp
        rcases hp with rfl | rfl | rfl | rfl | rfl | rfl | hp
        · exact hnI (wd, ow) (by k_mem)
        · exact Ne.symm hL2I
        · exact Ne.symm hLI
        · exact hnI (D, oD) (by k_mem)
        · exact tTt.2.2.2.2
        · exact tTp.2.2.2.2
        · exact hnI p (.tail _ (.tail _ (.tail _ (.tail _ hp))))
      · rw [htk]
        intro e he
        rcases List.mem_append.mp he with he | he
        · obtain ⟨⟨t', tn, b, us, h1, h2, h3, h4⟩, h5⟩ := hW e he
          dsimp only
          rw [if_neg (hci e he)]
          exact ⟨⟨t', tn, b, us, by rw [valueAt_stored_ne _ _ (hci e he)]; exact h1, .tail _ (.tail _ h2), .tail _ (.tail _ h3), h4⟩, h5⟩
        · obtain rfl := List.mem_singleton.mp he
          dsimp only
          rw [if_pos rfl]
          refine ⟨⟨_, ty, Tp, vs', valueAt_stored_self _ _ _, .head _, .tail _ (.head _), hS5⟩, hyn, fun z hz => ?_, by dsimp only; omega⟩
          have := hperm.mem_iff.mp hz
          rw [foldl_keys, hps] at this
          exact hmem z (by simpa using this)
      · intro p hp
        simp only [List.mem_cons] at hp
        rcases hp with rfl | rfl | hp
        · exact ⟨tTt.1, tTt.2.1, tTt.2.2.1, tTt.2.2.2.1⟩
        · exact ⟨tTp.1, tTp.2.1, tTp.2.2.1, tTp.2.2.2.1⟩
        · exact htl p hp
  · rintro m₁ news₁ h tk ⟨mw, ow, om, ov, oD, k, kvs, W, tl, hom, rfl, hD, hk0, hk1, hdo, hkl, hW, htl⟩ F2 N2
    clear F1 N1
    rw [show (List.toArray cvs).size = 10 from (by have := hCi.length; simp only [List.size_toArray, this]; rfl)] at hW hk1
    have hW' : WTl tl kvs W lawCodes := hW
    k_steps
    (try dsimp only)
    have frs : ∀ {x : Addr}, g.get? x = none → x ≠ D → s.heap.get? x = none := fun {x} hx hne => by
      cases q : s.heap.get? x with
      | none => rfl
      | some o' => exact absurd (hx.symm.trans (hkg _ _ q (by simpa using hne))) (by simp)
    refine ret wd W k oD _ _ (fun b o e hb => F2.keep _ _ (hkg _ _ e hb)) (frs (N2 _ (.head _)).2.2 hwD) (N2 (D, oD) (by k_mem)).1 hD hk0 (by omega) ⟨ow, kvs, tl, hdo, lo, hW', fun p hp => ?_⟩ (fun c hc y hy => ?_) (fun c hc => (hW' c hc).2.2.2)
    · rcases List.mem_cons.mp hp with rfl | hp
      · exact ⟨(N2 _ (.head _)).1, frs (N2 _ (.head _)).2.2 hwD⟩
      · have hm := N2 p (.tail _ (.tail _ (.tail _ (.tail _ hp))))
        exact ⟨hm.1, frs hm.2.2 (htl p hp).2.2.2⟩
    · have hyl : y ∈ lawNames := by
        unfold nmOf at hy
        split at hy
        · rw [List.mem_singleton.mp hy]; exact (hW' c hc).2.1
        · exact (hW' c hc).2.2.1 y hy
      rintro rfl
      exact absurd hyl (by decide +kernel)
end
theorem WRep.ofTl {w : World} {h : Heap} {wa : Addr} {ow : Obj} {kvs : List (Int × Value)} {tl : List (Addr × Obj)} {W : Signs} {cs : List Int} (hd : ow.IsDictOf (PySem.intKind PR w) kvs) (lo : (wa == sysModules) = false) (hW : WTl tl kvs W cs) (hm : ∀ p ∈ (wa, ow) :: tl, h.get? p.1 = some p.2) : WRep w h wa W cs := by
  refine ⟨kvs, Heap.dictOf_iff.mpr ⟨ow, hm _ (.head _), hd⟩, lo, fun c hc => ?_⟩
  obtain ⟨⟨t', tn, b, us, h1, h2, h3, h4⟩, _⟩ := hW c hc
  exact ⟨t', tn, b, us, h1, ⟨_, hm _ (.tail _ h2), rfl, _, rfl⟩, ⟨_, hm _ (.tail _ h3), rfl, _, rfl⟩, h4⟩
end
end

section
/-- the callee's ledger and frame, told of the caller -/
theorem News.lift {g g2 h2 h' : Heap} {L L' : Addr} {m m' : Str → Option Value} {ds : List Addr} {ps : List (Addr × Obj)} (F1 : Fr g L h2 m) (hkg : KeepBut ds h2 g2) (F' : Fr g2 L' h' m') (N' : News g2 L' h' ps) (hL : L ∉ ds) (hds : ∀ d ∈ ds, g.get? d = none) : News g L h' ps := by
  intro p hp
  refine ⟨(N' p hp).1, ?_, ?_⟩
  · intro e
    obtain ⟨oL, _, _, hoL, _⟩ := F1.ns
    have := hkg _ _ hoL hL
    rw [← e, (N' p hp).2.2] at this; cases this
  · cases q : g.get? p.1 with
    | none => rfl
    | some o =>
      by_cases hm : p.1 ∈ ds
      · rw [hds _ hm] at q; cases q
      · have := hkg _ _ (F1.keep _ _ q) hm
        rw [(N' p hp).2.2] at this; cases this
theorem Fr.lift {g g2 h2 h' : Heap} {L L' : Addr} {m m' : Str → Option Value} {ds : List Addr} (F1 : Fr g L h2 m) (hkg : KeepBut ds h2 g2) (F' : Fr g2 L' h' m') (hL : L ∉ ds) (hds : ∀ d ∈ ds, g.get? d = none) : Fr g L h' m :=
  Fr.behind F1 (fun b o e hb => F'.keep _ _ (hkg _ _ e hb)) hL hds
theorem News.lift2 {g g2 h2 h' : Heap} {L L' : Addr} {m' : Str → Option Value} {ds : List Addr} {news : List (Addr × Obj)} (N1 : News g L h2 news) (hkg : KeepBut ds h2 g2) (F' : Fr g2 L' h' m') (hn : ∀ p ∈ news, p.1 ∉ ds) : News g L h' news :=
  News.behind N1 (fun b o e hb => F'.keep _ _ (hkg _ _ e hb)) hn
theorem News.join {g h : Heap} {L : Addr} {a b : List (Addr × Obj)} (x : News g L h a) (y : News g L h b) : News g L h (a ++ b) := fun p hp => (List.mem_append.mp hp).elim (x p) (y p)

theorem News.four {g h : Heap} {L : Addr} {v s x d : Addr × Obj} {news : List (Addr × Obj)} (N : News g L h [v, s, x, d]) (M : News g L h news) : News g L h (x :: d :: s :: v :: news) := by
  intro p hp
  simp only [List.mem_cons] at hp
  rcases hp with rfl | rfl | rfl | rfl | hp
  · exact N _ (by simp)
  · exact N _ (by simp)
  · exact N _ (by simp)
  · exact N _ (by simp)
  · exact M p hp

section
variable {w : World} {mg mb : Str → Option Value} {mean : ExcName → Option Value} {loose : List Str} {h₀ : Heap} {dp un : Nat} {fr : Option (List Env)} {gd : Option (List Code)} {s : Shared} {Q : Value → Shared → Prop} {E : Value → Shared → Prop}
variable {g : Heap} {L : Addr} {m : Str → Option Value} {news : List (Addr × Obj)}
theorem rm_new_ok {v : Value} (F : Fr g L s.heap m) (N : News g L s.heap news) (X : (hd.heap_1 w.params).In g) (T : Top hVw loose mean mg mb g) (hdp : dp ≤ 890) (hun : un ≤ 8900)
    (ret : ∀ ra rd S V t1 t2 t3 tz c1 c2 h' tk', Fr g L h' m → News g L h' ((ra, instObj 122 rd) :: (rd, dictOf (rmEs w t1 t2 t3 v S V) 3) :: (S, listOf (List.toArray [.int 0 tz]) c1) :: (V, listOf (List.toArray [v]) c2) :: news) → (∀ p ∈ news, p.1 ≠ ra ∧ p.1 ≠ rd ∧ p.1 ≠ S ∧ p.1 ≠ V) → Q (.ref ra) { s with heap := h', toks := tk' }) :
    wpAny (model PR w) (AX dp un fr gd) (call (.ref 122) [v]) Q E s := by
  revert X; k_fill; intro X
  refine call_cls (fI := 91) F X N (by k_is) (by k_is) (by k_is) (fun x dx h2 F1 N1 l1 l2 => ?_)
  have hxd : x ≠ dx := Ne.symm (Nat.ne_of_lt l2)
  have hdx : dx ≠ x := Nat.ne_of_lt l2
  refine' code_fn (news := [(x, instObj 122 dx), (dx, dictOf [] 0)]) (binds := [(Str.ofString "self", .ref x), (Str.ofString "default", v)]) ?k1 ?k2 ?k3 ?k4 ?k6 ?k7 ?k8 ?k9 ?kB ?_ ?c2 ?c3 ?c4 ?c5
  case k1 => exact F1.keep
  case k2 => exact X
  case k3 => exact T
  case k4 => (intro q hq; simp only [List.mem_cons, List.not_mem_nil, or_false] at hq; rcases hq with rfl | rfl; exact ⟨(N1 _ (.head _)).1, (N1 _ (.head _)).2.2⟩; exact ⟨(N1 _ (.tail _ (.head _))).1, (N1 _ (.tail _ (.head _))).2.2⟩)
  case k6 => k_is
  case k7 => k_is
  case k8 => (simp only [depth_under_make, recursionLimit] at *; (try dsimp only); omega)
  case k9 => first | exact BindsTo.of_eq rfl | exact binds_K (X.keeps F1.keep) rfl (by k_is) rfl rfl rfl
  case kB => exact locs rfl
  case c2 => exact rfl
  case c3 => exact rfl
  case c4 => exact rfl
  case c5 => decide
  intro g2 L' h₁ hg hkg hgs F2 N2 X' T'
  dsimp only
  k_fold
  k_steps
  refine ⟨rfl, ?_⟩
  rename_i S _ _ _ _ V _ _ h5 F5 N5
  have hLn : L ∉ [x, dx] := by
    simp only [List.mem_cons, List.not_mem_nil, or_false, not_or]
    exact ⟨Ne.symm (N1 _ (.head _)).2.1, Ne.symm (N1 _ (.tail _ (.head _))).2.1⟩
  have hds : ∀ d ∈ [x, dx], g.get? d = none := by
    intro d hd
    simp only [List.mem_cons, List.not_mem_nil, or_false] at hd
    rcases hd with rfl | rfl
    · exact (N1 _ (.head _)).2.2
    · exact (N1 _ (.tail _ (.head _))).2.2
  have N6 := News.lift F1 hkg F5 N5 hLn hds
  have N7 := News.lift2 (news := news) (fun p hp => N1 p (.tail _ (.tail _ hp))) hkg F5 (fun p hp => by
    simp only [List.map_cons, List.map_nil, List.mem_cons, List.not_mem_nil, or_false, not_or]
    exact ⟨Nat.ne_of_lt (Nat.lt_trans (l1 p hp) l2), Nat.ne_of_lt (l1 p hp)⟩)
  exact ret x dx S V _ _ _ _ _ _ h5 _ (Fr.lift F1 hkg F5 hLn hds) (News.four N6 N7) (fun p hp => by
    have h1 := l1 p hp
    have h2 := hkg _ _ (N1 p (.tail _ (.tail _ hp))).1 (by
      simp only [List.map_cons, List.map_nil, List.mem_cons, List.not_mem_nil, or_false, not_or]
      exact ⟨Nat.ne_of_lt (Nat.lt_trans h1 l2), Nat.ne_of_lt h1⟩)
    refine ⟨Nat.ne_of_lt (Nat.lt_trans h1 l2), Nat.ne_of_lt h1, fun e => ?_, fun e => ?_⟩
    · rw [e, (N5 _ (.tail _ (.head _))).2.2] at h2; cases h2
    · rw [e, (N5 _ (.head _)).2.2] at h2; cases h2)
end
end
section
local macro_rules | `(tactic| walk_at "exec While Compare cons nil") => `(tactic| with_reducible refine hold ?_)
local macro_rules | `(tactic| walk_at "exec For Name Name cons nil") => `(tactic| with_reducible refine hold ?_)
local macro_rules | `(tactic| walk_at "exec For Name Call cons nil") => `(tactic| with_reducible refine hold ?_)
local macro_rules | `(tactic| walk_at "exec For Name Subscript cons nil") => `(tactic| with_reducible refine hold ?_)
local macro_rules | `(tactic| walk_at "exec For Tuple Tuple cons nil") => `(tactic| with_reducible refine hold ?_)
local macro_rules | `(tactic| walk_at "eval ListComp Name cons") => `(tactic| with_reducible refine hold ?_)
local macro_rules | `(tactic| walk_at "eval ListComp Tuple cons") => `(tactic| with_reducible refine hold ?_)
local macro_rules | `(tactic| walk_at "eval ListComp Subscript cons") => `(tactic| with_reducible refine hold ?_)
local macro_rules | `(tactic| walk_at "call ref") => `(tactic| with_reducible refine hold ?_)
local macro_rules | `(tactic| walk_at "call builtin:sorted") => `(tactic| with_reducible refine hold ?_)
local macro_rules | `(tactic| walk_at "call type:tuple") => `(tactic| with_reducible refine hold ?_)
local macro_rules | `(tactic| walk_at "call type:list") => `(tactic| with_reducible refine hold ?_)
local macro_rules | `(tactic| walk_at "call builtin:list.append") => `(tactic| with_reducible refine hold ?_)
local macro_rules | `(tactic| walk_at "compareOp In str ref") => `(tactic| with_reducible refine hold ?_)
local macro_rules | `(tactic| walk_at "compareOp NotIn str ref") => `(tactic| with_reducible refine hold ?_)
local macro_rules | `(tactic| k_all) => `(tactic| assumption)
local macro_rules | `(tactic| walk_at "pyIter ref") => `(tactic| with_reducible refine hold ?_)

section
local macro_rules | `(tactic| walk_at "exec For Name Tuple cons nil") => `(tactic| with_reducible refine hold ?_)
local macro_rules | `(tactic| walk_at "setItem ref str") => `(tactic| with_reducible refine hold ?_)
def dfl1 : List Str := [Str.ofString "gcb", Str.ofString "wb", Str.ofString "sb"]
def dfl2 : List Str := [Str.ofString "ex", Str.ofString "sd", Str.ofString "cased", Str.ofString "ci", Str.ofString "ep", Str.ofString "di", Str.ofString "ids", Str.ofString "idc", Str.ofString "xids", Str.ofString "xidc", Str.ofString "pat_syn", Str.ofString "pat_ws", Str.ofString "idst"]
def dfl3 : List Str := [Str.ofString "dm", Str.ofString "uc", Str.ofString "lc", Str.ofString "tc", Str.ofString "cf", Str.ofString "bm", Str.ofString "bpb", Str.ofString "scx", Str.ofString "nt", Str.ofString "nv", Str.ofString "name", Str.ofString "conf", Str.ofString "nfkc_cf"]
def dfl4 : List Str := [Str.ofString "suc", Str.ofString "slc", Str.ofString "stc", Str.ofString "alias"]
theorem News.names {h₀ h : Heap} {L T : Addr} {o : Obj} {rest : List (Addr × Obj)} {its : List Value} {ss : List Str} (N : News h₀ L h ((T, o) :: rest)) (ho : o = tupOf (List.toArray its)) (hS : StrsAre its ss) : ∃ its, News h₀ L h ((T, tupOf (List.toArray its)) :: rest) ∧ StrsAre its ss := ⟨its, ho ▸ N, hS⟩
section
variable {w : World} {mg mb : Str → Option Value} {mean : ExcName → Option Value} {loose : List Str} {h₀ : Heap} {dp un : Nat} {fr : Option (List Env)} {gd : Option (List Code)} {s : Shared} {Q : Value → Shared → Prop} {E : Value → Shared → Prop}
theorem data_defaults_ok
    (kp : ∀ b o, h₀.get? b = some o → s.heap.get? b = some o) (X : (hd.heap_1 w.params).In h₀) (T : Top hVw loose mean mg mb h₀) (hdp : dp ≤ 900) (hun : un ≤ 9000)
    (ret : ∀ D oD dk h' tk', KeepBut [] s.heap h' → s.heap.get? D = none → (D == sysModules) = false → h'.get? D = some oD → oD.IsDictOf (PySem.strKind PR w) dk → valueAt dk (Str.ofString "scx") = some .none → (∃ y t, valueAt dk (Str.ofString "sc") = some (.str y t)) → Q (.ref D) { s with heap := h', toks := tk' }) :
    wpAny (model PR w) (AX dp un fr gd) (call (.ref 133) []) Q E s := by
  refine wpAny_call ?_
  refine' code_fn (news := []) (binds := []) ?k1 ?k2 ?k3 ?k4 ?k6 ?k7 ?k8 ?k9 ?kB ?_ ?c2 ?c3 ?c4 ?c5
  case k1 => exact kp
  case k2 => exact X
  case k3 => exact T
  case k4 => (intro q hq; exact nomatch hq)
  case k6 => k_is
  case k7 => k_is
  case k8 => (simp only [recursionLimit] at *; omega)
  case k9 => first | exact BindsTo.of_eq rfl | exact binds_K (X.keeps kp) rfl (by k_is) rfl rfl rfl
  case kB => exact locs rfl
  case c2 => exact rfl
  case c3 => exact rfl
  case c4 => exact rfl
  case c5 => decide
  intro g L' h₁ hg hkg hgs F N X' T'
  dsimp only
  k_fold
  have kg : ∀ b o, s.heap.get? b = some o → g.get? b = some o := fun b o e => hkg b o e (fun h => nomatch h)
  k_steps
  show wpAny _ _ _ _ _ _
  rename Fr _ _ _ _ => F1
  rename News _ _ _ _ => N1
  rename_i oD lo hdd hf ap l1 hh1
  clear hf
  obtain ⟨dk, hdk, hlen, hsc⟩ : ∃ dk, oD.IsDictOf (PySem.strKind PR w) dk ∧ dk.length ≤ 8 ∧ ∃ y t, valueAt dk (Str.ofString "sc") = some (.str y t) := ⟨_, hdd, Nat.le_of_ble_eq_true rfl, Str.ofString "Zzzz", _, rfl⟩
  clear hdd
  refine wpAny_For ?_
  k_steps
  show wpAny _ _ _ _ _ _
  rename Fr _ _ _ _ => Fa
  rename News _ _ _ _ => Na
  obtain ⟨its0, Nb, hTS0⟩ := News.names (ss := dfl1) Na rfl (.cons _ _ (.cons _ _ (.cons _ _ .nil)))
  clear Na
  refine for_tup (items := List.toArray its0) (fun ax i m news => m (Str.ofString "found") = some (.ref h₁.objs.size) ∧ ∃ oD dk, news = [(ax, tupOf (List.toArray its0)), (h₁.objs.size, oD)] ∧ oD.IsDictOf (PySem.strKind PR w) dk ∧ dk.length ≤ 8 + i ∧ (∃ y t, valueAt dk (Str.ofString "sc") = some (.str y t)) ∧ True) rfl Fa Nb
    ⟨rfl, oD, dk, rfl, hdk, by omega, hsc, trivial⟩ ?_ ?_ ?_
  · rintro i m news h ⟨_, oD, dk, rfl, _⟩ F N
    exact ⟨_, (N _ (.head _)).1, rfl, _, rfl⟩
  · rintro I i v it m₁ news₁ h tk hi hv hOb ⟨mf, oD, dk, rfl, hdk, hlen, hsc, hP⟩ - hnI hlt F2 N2
    clear Fa Nb
    obtain ⟨y, ty, rfl, hy⟩ := StrsAre.get hTS0 (by simpa using hv)
    have hi2 : i < 3 := (List.getElem?_eq_some_iff.mp hy).1
    refine wpAny_assign_Name (stN F2 N2 (fun h' F3 N3 => ?_) rfl rfl)
    clear F2 N2
    k_steps
    show wpAny _ _ _ _ _ _
    rename Fr _ _ _ _ => F4
    rename News _ _ _ _ => N4
    have hax := News.ne N4 (p := (_, tupOf (List.toArray its0))) (q := (h₁.objs.size, oD)) (by k_mem) (by k_mem) (tup_ne_dict hdk)
    have hIF := hnI (h₁.objs.size, oD) (by k_mem)
    refine set_head F4 (News.sub (news' := [(h₁.objs.size, oD), (I, it), (_, tupOf (List.toArray its0))]) N4 (fun p hp => by
      simp only [List.mem_cons, List.not_mem_nil, or_false] at hp
      rcases hp with rfl | rfl | rfl <;> k_mem)) (fun p hp => by
      simp only [List.mem_cons, List.not_mem_nil, or_false] at hp
      rcases hp with rfl | rfl
      · exact Ne.symm hIF
      · exact hax) hdk (strKind_is PR w y ty) (by omega) (fun h5 o5 F5 N5 hd5 => ?_)
    clear F4 N4
    k_steps
    refine TurnK.intro (news' := [(_, tupOf (List.toArray its0)), (h₁.objs.size, o5)]) F5 N5 (fun p hp => by
      simp only [List.mem_cons, List.not_mem_nil, or_false] at hp
      rcases hp with rfl | rfl | rfl <;> k_mem) (fun p hp => by
      simp only [List.mem_cons, List.not_mem_nil, or_false] at hp
      rcases hp with rfl | rfl
      · exact hnI _ (.head _)
      · exact hIF) ⟨mf, o5, _, rfl, hd5, Nat.le_trans (stored_length_le _ _ _) (by omega), ?_, ?_⟩
    · obtain ⟨y0, t0, hsc⟩ := hsc
      have hys : Str.ofString "sc" ≠ y := by
        rintro rfl
        have hm := List.mem_of_getElem? hy
        exact absurd hm (by decide +kernel)
      exact ⟨y0, t0, by rw [valueAt_stored_ne _ _ hys]; exact hsc⟩
    trivial
  rintro m₁ news₁ hE0 tk ⟨mf, oD, dk, rfl, hdk, hlen, hsc, hP⟩ Fc Nc
  rw [show (List.toArray its0).size = 3 from (by have := hTS0.length; simp only [List.size_toArray, this]; rfl)] at hlen
  skip
  have Nd := News.sub (news' := [(h₁.objs.size, oD)]) Nc (by simp)
  clear Nc Fa Nb
  k_steps
  show wpAny _ _ _ _ _ _
  refine wpAny_For ?_
  k_steps
  show wpAny _ _ _ _ _ _
  rename Fr _ _ _ _ => Fa
  rename News _ _ _ _ => Na
  obtain ⟨its1, Nb, hTS1⟩ := News.names (ss := dfl2) Na rfl (.cons _ _ (.cons _ _ (.cons _ _ (.cons _ _ (.cons _ _ (.cons _ _ (.cons _ _ (.cons _ _ (.cons _ _ (.cons _ _ (.cons _ _ (.cons _ _ (.cons _ _ .nil)))))))))))))
  clear Na
  refine for_tup (items := List.toArray its1) (fun ax i m news => m (Str.ofString "found") = some (.ref h₁.objs.size) ∧ ∃ oD dk, news = [(ax, tupOf (List.toArray its1)), (h₁.objs.size, oD)] ∧ oD.IsDictOf (PySem.strKind PR w) dk ∧ dk.length ≤ 11 + i ∧ (∃ y t, valueAt dk (Str.ofString "sc") = some (.str y t)) ∧ True) rfl Fa Nb
    ⟨mf, oD, dk, rfl, hdk, by omega, hsc, trivial⟩ ?_ ?_ ?_
  · rintro i m news h ⟨_, oD, dk, rfl, _⟩ F N
    exact ⟨_, (N _ (.head _)).1, rfl, _, rfl⟩
  · rintro I i v it m₁ news₁ h tk hi hv hOb ⟨mf, oD, dk, rfl, hdk, hlen, hsc, hP⟩ - hnI hlt F2 N2
    clear Fa Nb
    obtain ⟨y, ty, rfl, hy⟩ := StrsAre.get hTS1 (by simpa using hv)
    have hi2 : i < 13 := (List.getElem?_eq_some_iff.mp hy).1
    refine wpAny_assign_Name (stN F2 N2 (fun h' F3 N3 => ?_) rfl rfl)
    clear F2 N2
    k_steps
    show wpAny _ _ _ _ _ _
    rename Fr _ _ _ _ => F4
    rename News _ _ _ _ => N4
    have hax := News.ne N4 (p := (_, tupOf (List.toArray its1))) (q := (h₁.objs.size, oD)) (by k_mem) (by k_mem) (tup_ne_dict hdk)
    have hIF := hnI (h₁.objs.size, oD) (by k_mem)
    refine set_head F4 (News.sub (news' := [(h₁.objs.size, oD), (I, it), (_, tupOf (List.toArray its1))]) N4 (fun p hp => by
      simp only [List.mem_cons, List.not_mem_nil, or_false] at hp
      rcases hp with rfl | rfl | rfl <;> k_mem)) (fun p hp => by
      simp only [List.mem_cons, List.not_mem_nil, or_false] at hp
      rcases hp with rfl | rfl
      · exact Ne.symm hIF
      · exact hax) hdk (strKind_is PR w y ty) (by omega) (fun h5 o5 F5 N5 hd5 => ?_)
    clear F4 N4
    k_steps
    refine TurnK.intro (news' := [(_, tupOf (List.toArray its1)), (h₁.objs.size, o5)]) F5 N5 (fun p hp => by
      simp only [List.mem_cons, List.not_mem_nil, or_false] at hp
      rcases hp with rfl | rfl | rfl <;> k_mem) (fun p hp => by
      simp only [List.mem_cons, List.not_mem_nil, or_false] at hp
      rcases hp with rfl | rfl
      · exact hnI _ (.head _)
      · exact hIF) ⟨mf, o5, _, rfl, hd5, Nat.le_trans (stored_length_le _ _ _) (by omega), ?_, ?_⟩
    · obtain ⟨y0, t0, hsc⟩ := hsc
      have hys : Str.ofString "sc" ≠ y := by
        rintro rfl
        have hm := List.mem_of_getElem? hy
        exact absurd hm (by decide +kernel)
      exact ⟨y0, t0, by rw [valueAt_stored_ne _ _ hys]; exact hsc⟩
    trivial
  rintro m₁ news₁ hE1 tk ⟨mf, oD, dk, rfl, hdk, hlen, hsc, hP⟩ Fc Nc
  rw [show (List.toArray its1).size = 13 from (by have := hTS1.length; simp only [List.size_toArray, this]; rfl)] at hlen
  skip
  have Nd := News.sub (news' := [(h₁.objs.size, oD)]) Nc (by simp)
  clear Nc Fa Nb
  k_steps
  show wpAny _ _ _ _ _ _
  refine wpAny_For ?_
  k_steps
  show wpAny _ _ _ _ _ _
  rename Fr _ _ _ _ => Fa
  rename News _ _ _ _ => Na
  obtain ⟨its2, Nb, hTS2⟩ := News.names (ss := dfl3) Na rfl (.cons _ _ (.cons _ _ (.cons _ _ (.cons _ _ (.cons _ _ (.cons _ _ (.cons _ _ (.cons _ _ (.cons _ _ (.cons _ _ (.cons _ _ (.cons _ _ (.cons _ _ .nil)))))))))))))
  clear Na
  refine for_tup (items := List.toArray its2) (fun ax i m news => m (Str.ofString "found") = some (.ref h₁.objs.size) ∧ ∃ oD dk, news = [(ax, tupOf (List.toArray its2)), (h₁.objs.size, oD)] ∧ oD.IsDictOf (PySem.strKind PR w) dk ∧ dk.length ≤ 24 + i ∧ (∃ y t, valueAt dk (Str.ofString "sc") = some (.str y t)) ∧ (7 < i → valueAt dk (Str.ofString "scx") = some .none)) rfl Fa Nb
    ⟨mf, oD, dk, rfl, hdk, by omega, hsc, (fun h => absurd h (by omega))⟩ ?_ ?_ ?_
  · rintro i m news h ⟨_, oD, dk, rfl, _⟩ F N
    exact ⟨_, (N _ (.head _)).1, rfl, _, rfl⟩
  · rintro I i v it m₁ news₁ h tk hi hv hOb ⟨mf, oD, dk, rfl, hdk, hlen, hsc, hP⟩ - hnI hlt F2 N2
    clear Fa Nb
    obtain ⟨y, ty, rfl, hy⟩ := StrsAre.get hTS2 (by simpa using hv)
    have hi2 : i < 13 := (List.getElem?_eq_some_iff.mp hy).1
    refine wpAny_assign_Name (stN F2 N2 (fun h' F3 N3 => ?_) rfl rfl)
    clear F2 N2
    k_steps
    show wpAny _ _ _ _ _ _
    rename Fr _ _ _ _ => F4
    rename News _ _ _ _ => N4
    have hax := News.ne N4 (p := (_, tupOf (List.toArray its2))) (q := (h₁.objs.size, oD)) (by k_mem) (by k_mem) (tup_ne_dict hdk)
    have hIF := hnI (h₁.objs.size, oD) (by k_mem)
    refine set_head F4 (News.sub (news' := [(h₁.objs.size, oD), (I, it), (_, tupOf (List.toArray its2))]) N4 (fun p hp => by
      simp only [List.mem_cons, List.not_mem_nil, or_false] at hp
      rcases hp with rfl | rfl | rfl <;> k_mem)) (fun p hp => by
      simp only [List.mem_cons, List.not_mem_nil, or_false] at hp
      rcases hp with rfl | rfl
      · exact Ne.symm hIF
      · exact hax) hdk (strKind_is PR w y ty) (by omega) (fun h5 o5 F5 N5 hd5 => ?_)
    clear F4 N4
    k_steps
    refine TurnK.intro (news' := [(_, tupOf (List.toArray its2)), (h₁.objs.size, o5)]) F5 N5 (fun p hp => by
      simp only [List.mem_cons, List.not_mem_nil, or_false] at hp
      rcases hp with rfl | rfl | rfl <;> k_mem) (fun p hp => by
      simp only [List.mem_cons, List.not_mem_nil, or_false] at hp
      rcases hp with rfl | rfl
      · exact hnI _ (.head _)
      · exact hIF) ⟨mf, o5, _, rfl, hd5, Nat.le_trans (stored_length_le _ _ _) (by omega), ?_, ?_⟩
    · obtain ⟨y0, t0, hsc⟩ := hsc
      have hys : Str.ofString "sc" ≠ y := by
        rintro rfl
        have hm := List.mem_of_getElem? hy
        exact absurd hm (by decide +kernel)
      exact ⟨y0, t0, by rw [valueAt_stored_ne _ _ hys]; exact hsc⟩
    intro h7
    by_cases hys : y = Str.ofString "scx"
    · subst hys; exact valueAt_stored_self _ _ _
    · rw [valueAt_stored_ne _ _ (Ne.symm hys)]
      refine hP (Nat.lt_of_le_of_ne (by omega) (fun e => ?_))
      subst e
      exact hys (Option.some.inj (hy.symm.trans (show dfl3[7]? = some (Str.ofString "scx") from rfl)))
  rintro m₁ news₁ hE2 tk ⟨mf, oD, dk, rfl, hdk, hlen, hsc, hP⟩ Fc Nc
  rw [show (List.toArray its2).size = 13 from (by have := hTS2.length; simp only [List.size_toArray, this]; rfl)] at hlen hP
  replace hP := hP (by omega)
  have Nd := News.sub (news' := [(h₁.objs.size, oD)]) Nc (by simp)
  clear Nc Fa Nb
  k_steps
  show wpAny _ _ _ _ _ _
  refine wpAny_For ?_
  k_steps
  show wpAny _ _ _ _ _ _
  rename Fr _ _ _ _ => Fa
  rename News _ _ _ _ => Na
  obtain ⟨its3, Nb, hTS3⟩ := News.names (ss := dfl4) Na rfl (.cons _ _ (.cons _ _ (.cons _ _ (.cons _ _ .nil))))
  clear Na
  refine for_tup (items := List.toArray its3) (fun ax i m news => m (Str.ofString "found") = some (.ref h₁.objs.size) ∧ ∃ oD dk, news = [(ax, tupOf (List.toArray its3)), (h₁.objs.size, oD)] ∧ oD.IsDictOf (PySem.strKind PR w) dk ∧ dk.length ≤ 37 + i ∧ (∃ y t, valueAt dk (Str.ofString "sc") = some (.str y t)) ∧ valueAt dk (Str.ofString "scx") = some .none) rfl Fa Nb
    ⟨mf, oD, dk, rfl, hdk, by omega, hsc, hP⟩ ?_ ?_ ?_
  · rintro i m news h ⟨_, oD, dk, rfl, _⟩ F N
    exact ⟨_, (N _ (.head _)).1, rfl, _, rfl⟩
  · rintro I i v it m₁ news₁ h tk hi hv hOb ⟨mf, oD, dk, rfl, hdk, hlen, hsc, hP⟩ - hnI hlt F2 N2
    clear Fa Nb
    obtain ⟨y, ty, rfl, hy⟩ := StrsAre.get hTS3 (by simpa using hv)
    have hi2 : i < 4 := (List.getElem?_eq_some_iff.mp hy).1
    refine wpAny_assign_Name (stN F2 N2 (fun h' F3 N3 => ?_) rfl rfl)
    clear F2 N2
    k_steps
    show wpAny _ _ _ _ _ _
    rename Fr _ _ _ _ => F4
    rename News _ _ _ _ => N4
    have hax := News.ne N4 (p := (_, tupOf (List.toArray its3))) (q := (h₁.objs.size, oD)) (by k_mem) (by k_mem) (tup_ne_dict hdk)
    have hIF := hnI (h₁.objs.size, oD) (by k_mem)
    refine set_head F4 (News.sub (news' := [(h₁.objs.size, oD), (I, it), (_, tupOf (List.toArray its3))]) N4 (fun p hp => by
      simp only [List.mem_cons, List.not_mem_nil, or_false] at hp
      rcases hp with rfl | rfl | rfl <;> k_mem)) (fun p hp => by
      simp only [List.mem_cons, List.not_mem_nil, or_false] at hp
      rcases hp with rfl | rfl
      · exact Ne.symm hIF
      · exact hax) hdk (strKind_is PR w y ty) (by omega) (fun h5 o5 F5 N5 hd5 => ?_)
    clear F4 N4
    k_steps
    refine TurnK.intro (news' := [(_, tupOf (List.toArray its3)), (h₁.objs.size, o5)]) F5 N5 (fun p hp => by
      simp only [List.mem_cons, List.not_mem_nil, or_false] at hp
      rcases hp with rfl | rfl | rfl <;> k_mem) (fun p hp => by
      simp only [List.mem_cons, List.not_mem_nil, or_false] at hp
      rcases hp with rfl | rfl
      · exact hnI _ (.head _)
      · exact hIF) ⟨mf, o5, _, rfl, hd5, Nat.le_trans (stored_length_le _ _ _) (by omega), ?_, ?_⟩
    · obtain ⟨y0, t0, hsc⟩ := hsc
      have hys : Str.ofString "sc" ≠ y := by
        rintro rfl
        have hm := List.mem_of_getElem? hy
        exact absurd hm (by decide +kernel)
      exact ⟨y0, t0, by rw [valueAt_stored_ne _ _ hys]; exact hsc⟩
    have hys : Str.ofString "scx" ≠ y := by
      rintro rfl
      have hm := List.mem_of_getElem? hy
      exact absurd hm (by decide +kernel)
    rw [valueAt_stored_ne _ _ hys]; exact hP
  rintro m₁ news₁ hE3 tk ⟨mf, oD, dk, rfl, hdk, hlen, hsc, hP⟩ Fc Nc
  rw [show (List.toArray its3).size = 4 from (by have := hTS3.length; simp only [List.size_toArray, this]; rfl)] at hlen
  skip
  have Nd := News.sub (news' := [(h₁.objs.size, oD)]) Nc (by simp)
  clear Nc Fa Nb
  k_steps
  show wpAny _ _ _ _ _ _
  rename Fr _ _ _ _ => F4
  rename News _ _ _ _ => N4
  refine set_head F4 (News.sub (news' := [(h₁.objs.size, oD)]) N4 (fun p hp => by
    obtain rfl := List.mem_singleton.mp hp
    k_mem)) (by simp) hdk (strKind_is PR w _ _) (by omega) (fun h5 o5 F5 N5 hd5 => ?_)
  clear F4 N4
  k_steps
  (try dsimp only)
  exact ret _ o5 _ _ _ (fun b o e _ => F5.keep _ _ (kg _ _ e)) (fresh_of kg N5) lo (N5 _ (.head _)).1 hd5 (by rw [valueAt_stored_ne _ _ (by decide +kernel)]; exact hP) (by obtain ⟨y0, t0, hsc⟩ := hsc; exact ⟨y0, t0, by rw [valueAt_stored_ne _ _ (by decide +kernel)]; exact hsc⟩)
end
end

section
theorem News.six {g h : Heap} {L : Addr} {a b c e x d : Addr × Obj} {news : List (Addr × Obj)} (N : News g L h [a, b, c, e, x, d]) (M : News g L h news) : News g L h (x :: d :: e :: c :: news) := by
  intro p hp
  simp only [List.mem_cons] at hp
  rcases hp with rfl | rfl | rfl | rfl | hp
  · exact N _ (by simp)
  · exact N _ (by simp)
  · exact N _ (by simp)
  · exact N _ (by simp)
  · exact M p hp

section
variable {w : World} {mg mb : Str → Option Value} {mean : ExcName → Option Value} {loose : List Str} {h₀ : Heap} {dp un : Nat} {fr : Option (List Env)} {gd : Option (List Code)} {s : Shared} {Q : Value → Shared → Prop} {E : Value → Shared → Prop}
variable {g : Heap} {L : Addr} {m : Str → Option Value} {news : List (Addr × Obj)}
theorem data_new_ok (F : Fr g L s.heap m) (N : News g L s.heap news) (X : (hd.heap_1 w.params).In g) (T : Top hVw loose mean mg mb g) (hdp : dp ≤ 880) (hun : un ≤ 8800)
    (ret : ∀ da dd DF MP PP WD u1 u2 u3 u4 oDF oMP dk h' tk', Fr g L h' m → News g L h' ((da, instObj 171 dd) :: (dd, dictOf (dataEs w u1 u2 u3 u4 DF MP PP WD) 4) :: (DF, oDF) :: (MP, oMP) :: news) →
      oDF.IsDictOf (PySem.strKind PR w) dk → oMP.IsDictOf (PySem.strKind PR w) [] → valueAt dk (Str.ofString "scx") = some .none → (∃ y t, valueAt dk (Str.ofString "sc") = some (.str y t)) → (DF == sysModules) = false → (MP == sysModules) = false → Q (.ref da) { s with heap := h', toks := tk' }) :
    wpAny (model PR w) (AX dp un fr gd) (call (.ref 171) []) Q E s := by
  revert X; k_fill; intro X
  refine call_cls (fI := 147) F X N (by k_is) (by k_is) (by k_is) (fun x dx h2 F1 N1 l1 l2 => ?_)
  have hxd : x ≠ dx := Ne.symm (Nat.ne_of_lt l2)
  have hdx : dx ≠ x := Nat.ne_of_lt l2
  refine' code_fn (news := [(x, instObj 171 dx), (dx, dictOf [] 0)]) (binds := [(Str.ofString "self", .ref x)]) ?k1 ?k2 ?k3 ?k4 ?k6 ?k7 ?k8 ?k9 ?kB ?_ ?c2 ?c3 ?c4 ?c5
  case k1 => exact F1.keep
  case k2 => exact X
  case k3 => exact T
  case k4 => (intro q hq; simp only [List.mem_cons, List.not_mem_nil, or_false] at hq; rcases hq with rfl | rfl; exact ⟨(N1 _ (.head _)).1, (N1 _ (.head _)).2.2⟩; exact ⟨(N1 _ (.tail _ (.head _))).1, (N1 _ (.tail _ (.head _))).2.2⟩)
  case k6 => k_is
  case k7 => k_is
  case k8 => (simp only [depth_under_make, recursionLimit] at *; (try dsimp only); omega)
  case k9 => first | exact BindsTo.of_eq rfl | exact binds_K (X.keeps F1.keep) rfl (by k_is) rfl rfl rfl
  case kB => exact locs rfl
  case c2 => exact rfl
  case c3 => exact rfl
  case c4 => exact rfl
  case c5 => decide
  intro g2 L' h₁ hg hkg hgs F2 N2 X' T'
  dsimp only
  k_fold
  k_steps
  show wpAny _ _ _ _ _ _
  refine data_defaults_ok (s := { s with heap := h₁, toks := _ }) F2.keep X' T' (by (simp only [depth_under_make]; try dsimp only); omega) (by (simp only [units_deeper, units_under_make]; try dsimp only); omega) (fun DF oDF dk h3 tk3 hk hf hlo ho hdd hscx hsc => ?_)
  have F3 := Fr.behind0 F2 hk
  have N3 := News.made F2 (News.behind0 N2 hk) ho hf
  have hDx : DF ≠ x := fun e => by rw [e, (N2 _ (.head _)).1] at hf; cases hf
  have hDdx : DF ≠ dx := fun e => by rw [e, (N2 _ (.tail _ (.head _))).1] at hf; cases hf
  clear F2 N2
  k_steps
  refine ⟨rfl, ?_⟩
  rename_i MP _ oMP loM hsM _ _ _ _ _ PP _ _ _ _ _ _ _ _ _ WD _ _ _ _ _ _ _ _ h5 F5 N5
  have hLn : L ∉ [x, dx] := by
    simp only [List.mem_cons, List.not_mem_nil, or_false, not_or]
    exact ⟨Ne.symm (N1 _ (.head _)).2.1, Ne.symm (N1 _ (.tail _ (.head _))).2.1⟩
  have hds : ∀ d ∈ [x, dx], g.get? d = none := by
    intro d hd
    simp only [List.mem_cons, List.not_mem_nil, or_false] at hd
    rcases hd with rfl | rfl
    · exact (N1 _ (.head _)).2.2
    · exact (N1 _ (.tail _ (.head _))).2.2
  have N6 := News.lift F1 hkg F5 N5 hLn hds
  have N7 := News.lift2 (news := news) (fun p hp => N1 p (.tail _ (.tail _ hp))) hkg F5 (fun p hp => by
    simp only [List.map_cons, List.map_nil, List.mem_cons, List.not_mem_nil, or_false, not_or]
    exact ⟨Nat.ne_of_lt (Nat.lt_trans (l1 p hp) l2), Nat.ne_of_lt (l1 p hp)⟩)
  exact ret x dx DF MP PP WD _ _ _ _ oDF oMP dk h5 _ (Fr.lift F1 hkg F5 hLn hds) (News.six N6 N7) hdd hsM hscx hsc hlo loM
end
end

section
/-- what a map says at x, of the starts that lie at or below x -/
def lst (q : List (Int × AV)) (x : Int) : Option AV := ((q.filter (fun r => decide (r.1 ≤ x))).getLast?).map (·.2)
theorem lst_append (a b : List (Int × AV)) (x : Int) : lst (a ++ b) x = (lst b x).or (lst a x) := by
  unfold lst
  rw [List.filter_append, List.getLast?_append]
  cases (b.filter (fun r => decide (r.1 ≤ x))).getLast? <;> simp
theorem lst_all {a : List (Int × AV)} {x : Int} (h : ∀ q ∈ a, q.1 ≤ x) : lst a x = a.getLast?.map (·.2) := by
  unfold lst
  rw [List.filter_eq_self.mpr (fun q hq => by simpa using h q hq)]
theorem lst_none {a : List (Int × AV)} {x : Int} (h : ∀ q ∈ a, x < q.1) : lst a x = none := by
  unfold lst
  rw [List.filter_eq_nil_iff.mpr (fun q hq => by have := h q hq; simp; omega)]
  rfl
theorem cnt_cons (s : Int) (t : List Int) (x : Int) : cntLe (s :: t) x = (if s ≤ x then 1 else 0) + cntLe t x := by
  unfold cntLe
  rw [List.filter_cons]
  by_cases h : s ≤ x <;> simp [h] <;> omega
theorem cnt_mono {x y : Int} (h : x ≤ y) : ∀ p : List Int, cntLe p x ≤ cntLe p y
  | [] => Nat.le_refl _
  | s :: t => by
    have ih := cnt_mono h t
    rw [cnt_cons, cnt_cons]
    by_cases h1 : s ≤ x
    · rw [if_pos h1, if_pos (by omega)]; omega
    · rw [if_neg h1]; omega
theorem filter_take : ∀ (p : List (Int × AV)) (x : Int), (p.map (·.1)).Pairwise (· < ·) → p.filter (fun r => decide (r.1 ≤ x)) = p.take (cntLe (p.map (·.1)) x) ∧ ∀ q ∈ p.drop (cntLe (p.map (·.1)) x), x < q.1
  | [], x, _ => by simp
  | (s, a) :: t, x, h => by
    have h' := List.pairwise_cons.mp h
    have ih := filter_take t x h'.2
    rw [List.map_cons, cnt_cons]
    by_cases hs : s ≤ x
    · rw [if_pos hs, Nat.add_comm, List.take_succ_cons, List.drop_succ_cons, List.filter_cons, if_pos (by simpa using hs), ih.1]
      exact ⟨rfl, ih.2⟩
    · have h0 : cntLe (t.map (·.1)) x = 0 := by
        unfold cntLe
        rw [List.length_eq_zero_iff, List.filter_eq_nil_iff]
        intro b hb
        have := h'.1 b hb
        dsimp only at this
        simp; omega
      rw [if_neg hs, h0]
      refine ⟨?_, ?_⟩
      · rw [List.filter_cons, if_neg (by simpa using hs), ih.1, h0]; rfl
      · intro q hq
        rcases List.mem_cons.mp hq with rfl | hq
        · show x < s; omega
        · have := h'.1 q.1 (List.mem_map_of_mem hq)
          dsimp only at this
          omega
theorem take_le {p : List (Int × AV)} {x : Int} (h : (p.map (·.1)).Pairwise (· < ·)) : ∀ q ∈ p.take (cntLe (p.map (·.1)) x), q.1 ≤ x := by
  intro q hq
  rw [← (filter_take p x h).1] at hq
  simpa using (List.mem_filter.mp hq).2
theorem cnt_len (p : List (Int × AV)) (x : Int) : cntLe (p.map (·.1)) x ≤ p.length := by
  have := List.length_filter_le (fun n => decide (n ≤ x)) (p.map (·.1))
  unfold cntLe
  simpa using this
theorem den_lst {p : List (Int × AV)} {x : Int} (h : (p.map (·.1)).Pairwise (· < ·)) (h0 : 0 < cntLe (p.map (·.1)) x) : lst p x = some (den p x) := by
  unfold lst den
  rw [(filter_take p x h).1, List.getLast?_eq_getElem?, List.length_take, Nat.min_eq_left (cnt_len p x), List.getElem?_take, if_pos (by omega), List.getElem?_map]
  have : cntLe (p.map (·.1)) x - 1 < p.length := by have := cnt_len p x; omega
  rw [List.getElem?_eq_getElem this]
  rfl

def putP (p : List (Int × AV)) (c : Int) (a : AV) : List (Int × AV) :=
  p.take (cntLe (p.map (·.1)) (c - 1)) ++ ((if den p (c - 1) = a then [] else [(c, a)]) ++ (if den p (c + 1) = a then [] else [(c + 1, den p (c + 1))])) ++ p.drop (cntLe (p.map (·.1)) (c + 1))

theorem mid_mem {p : List (Int × AV)} {c : Int} {a : AV} : ∀ q ∈ (if den p (c - 1) = a then [] else [(c, a)]) ++ (if den p (c + 1) = a then [] else [(c + 1, den p (c + 1))]), c ≤ q.1 ∧ q.1 ≤ c + 1 := by
  intro q hq
  rcases List.mem_append.mp hq with hq | hq
  · split at hq
    · simp at hq
    · rw [List.mem_singleton.mp hq]; dsimp only; omega
  · split at hq
    · simp at hq
    · rw [List.mem_singleton.mp hq]; dsimp only; omega
theorem good_put {p : List (Int × AV)} {c : Int} {a : AV} (g : Good p) (hc : 1 ≤ c) (hl : p.length ≤ 900) : Good (putP p c a) := by
  have hlo := g.pos (x := c - 1) (by omega)
  have hA := take_le (x := c - 1) g.srt
  have hD := (filter_take p (c + 1) g.srt).2
  have hM := mid_mem (p := p) (c := c) (a := a)
  obtain ⟨a0, t, hp⟩ := g.first
  refine ⟨?_, ?_, ?_⟩
  · unfold putP
    rw [List.map_append, List.map_append, List.pairwise_append, List.pairwise_append]
    refine ⟨⟨?_, ?_, ?_⟩, ?_, ?_⟩
    · rw [List.map_take]; exact g.srt.sublist (List.take_sublist _ _)
    · split <;> split <;> simp
      omega
    · intro u hu v hv
      obtain ⟨q, hq, rfl⟩ := List.mem_map.mp hu
      obtain ⟨r, hr, rfl⟩ := List.mem_map.mp hv
      have := hA q hq
      have := (hM r hr).1
      omega
    · rw [List.map_drop]; exact g.srt.sublist (List.drop_sublist _ _)
    · intro u hu v hv
      obtain ⟨r, hr, rfl⟩ := List.mem_map.mp hv
      have := hD r hr
      rcases List.mem_append.mp hu with hu | hu
      · obtain ⟨q, hq, rfl⟩ := List.mem_map.mp hu
        have := hA q hq
        omega
      · obtain ⟨q, hq, rfl⟩ := List.mem_map.mp hu
        have := (hM q hq).2
        omega
  · unfold putP
    obtain ⟨n, hn⟩ : ∃ n, cntLe (p.map (·.1)) (c - 1) = n + 1 := ⟨_, (Nat.succ_pred_eq_of_pos hlo).symm⟩
    rw [hn]
    conv => arg 1; ext; arg 1; ext; lhs; rw [hp, List.take_succ_cons]
    exact ⟨a0, _, rfl⟩
  · unfold putP
    have h1 := List.length_take_le (cntLe (p.map (·.1)) (c - 1)) p
    have h2 : (p.drop (cntLe (p.map (·.1)) (c + 1))).length ≤ p.length := by rw [List.length_drop]; omega
    have h3 : cntLe (p.map (·.1)) (c - 1) ≤ cntLe (p.map (·.1)) (c + 1) := cnt_mono (by omega) _
    simp only [List.length_append, List.length_take, List.length_drop]
    have h4 : ((if den p (c - 1) = a then [] else [(c, a)]) ++ (if den p (c + 1) = a then [] else [(c + 1, den p (c + 1))])).length ≤ 2 := by split <;> split <;> simp
    rw [List.length_append] at h4
    omega
theorem den_put {p : List (Int × AV)} {c x : Int} {a : AV} (g : Good p) (hc : 1 ≤ c) (hl : p.length ≤ 900) (hx : 0 ≤ x) : den (putP p c a) x = if x = c then a else den p x := by
  have gp := good_put (a := a) g hc hl
  have hlo := g.pos (x := c - 1) (by omega)
  have hhi := g.pos (x := c + 1) (by omega)
  have hA := take_le (x := c - 1) g.srt
  have hA2 := take_le (x := c + 1) g.srt
  have hD := (filter_take p (c + 1) g.srt).2
  have hD2 := (filter_take p (c - 1) g.srt).2
  have hM := mid_mem (p := p) (c := c) (a := a)
  have e1 := den_lst gp.srt (gp.pos hx)
  have e2 := den_lst g.srt (g.pos hx)
  have lA : lst (p.take (cntLe (p.map (·.1)) (c - 1))) (c - 1) = some (den p (c - 1)) := by
    rw [← den_lst g.srt hlo]
    conv => rhs; rw [← List.take_append_drop (cntLe (p.map (·.1)) (c - 1)) p, lst_append, lst_none hD2]
    simp
  have lastA : (p.take (cntLe (p.map (·.1)) (c - 1))).getLast?.map (·.2) = some (den p (c - 1)) := by rw [← lst_all hA]; exact lA
  have lA2 : lst (p.take (cntLe (p.map (·.1)) (c + 1))) (c + 1) = some (den p (c + 1)) := by
    rw [← den_lst g.srt hhi]
    conv => rhs; rw [← List.take_append_drop (cntLe (p.map (·.1)) (c + 1)) p, lst_append, lst_none hD]
    simp
  have lastA2 : (p.take (cntLe (p.map (·.1)) (c + 1))).getLast?.map (·.2) = some (den p (c + 1)) := by rw [← lst_all hA2]; exact lA2
  have key : lst (putP p c a) x = some (if x = c then a else den p x) := by
    unfold putP
    rcases Int.lt_trichotomy x c with hlt | rfl | hgt
    · rw [show (if x = c then a else den p x) = den p x from if_neg (by omega), lst_append, lst_append, lst_none (fun q hq => by have := hD q hq; omega), lst_none (a := _ ++ _) (fun q hq => by have := (hM q hq).1; omega), ← e2]
      conv => rhs; rw [← List.take_append_drop (cntLe (p.map (·.1)) (c - 1)) p, lst_append, lst_none (fun q hq => by have := hD2 q hq; omega)]
      simp
    · rw [show (if x = x then a else den p x) = a from if_pos rfl, lst_append, lst_none (fun q hq => by have := hD q hq; omega), lst_append, lst_append, lst_none (a := if den p (x + 1) = a then [] else [(x + 1, den p (x + 1))]) (fun q hq => by
        split at hq
        · simp at hq
        · rw [List.mem_singleton.mp hq]; dsimp only; omega)]
      split
      · rename_i h
        rw [lst_none (a := []) (by simp), lst_all (fun q hq => by have := hA q hq; omega), lastA, h]; simp
      · rw [lst_all (a := [(x, a)]) (by simp)]; simp
    · rw [show (if x = c then a else den p x) = den p x from if_neg (by omega), ← e2]
      conv => rhs; rw [← List.take_append_drop (cntLe (p.map (·.1)) (c + 1)) p, lst_append]
      rw [lst_append]
      congr 1
      have r1 : lst (p.take (cntLe (p.map (·.1)) (c + 1))) x = some (den p (c + 1)) := by rw [lst_all (fun q hq => by have := hA2 q hq; omega)]; exact lastA2
      rw [r1, lst_all (fun q hq => by
        rcases List.mem_append.mp hq with hq | hq
        · have := hA q hq; omega
        · have := (hM q hq).2; omega)]
      by_cases h2 : den p (c + 1) = a
      · rw [if_pos h2, List.append_nil]
        split
        · rename_i h
          rw [List.append_nil, lastA, h, h2]
        · simp [h2]
      · rw [if_neg h2, ← List.append_assoc, List.getLast?_append]
        simp
  rw [e1] at key
  exact Option.some.inj key
theorem put_len {p : List (Int × AV)} {c : Int} {a : AV} : (putP p c a).length ≤ p.length + 2 := by
  unfold putP
  have h3 : cntLe (p.map (·.1)) (c - 1) ≤ cntLe (p.map (·.1)) (c + 1) := cnt_mono (by omega) _
  simp only [List.length_append, List.length_take, List.length_drop]
  have h4 : ((if den p (c - 1) = a then [] else [(c, a)]) ++ (if den p (c + 1) = a then [] else [(c + 1, den p (c + 1))])).length ≤ 2 := by split <;> split <;> simp
  rw [List.length_append] at h4
  omega
end

section
theorem isinst_tup {prog : Program} {w : World} {A : Around} {E : Value → Shared → Prop} {s : Shared} {a : Addr} {vs : Array Value} {Q : Value → Shared → Prop} (hT : IsTup s.heap a vs) (h : Q (.bool false) { s with toks := s.toks + 1 }) :
    wpAny (model prog w) A (call (.builtin "isinstance") [.ref a, .type "bool"]) Q E s := by
  obtain ⟨o, ho, hc, _⟩ := hT
  exact call_isinstance (isinstance_false_tuple (by decide) (by rfl) (by rw [isSubtype_type]; kernel_rfl)) ⟨⟨o, ho, hc⟩, h⟩

section
variable {w : World} {mg mb : Str → Option Value} {mean : ExcName → Option Value} {loose : List Str} {h₀ : Heap} {dp un : Nat} {fr : Option (List Env)} {gd : Option (List Code)} {s : Shared} {Q : Value → Shared → Prop} {E : Value → Shared → Prop}
theorem range_like_ok {v u : Value} {a b : AV}
    (kp : ∀ b o, h₀.get? b = some o → s.heap.get? b = some o) (X : (hd.heap_1 w.params).In h₀) (T : Top hVw loose mean mg mb h₀) (hdp : dp ≤ 900) (hun : un ≤ 9000)
    (hv : VIs h₀ v a) (hu : VIs h₀ u b)
    (ret : ∀ h' tk', KeepBut [] s.heap h' → Q (.bool (decide (a = b))) { s with heap := h', toks := tk' }) :
    wpAny (model PR w) (AX dp un fr gd) (call (.ref 77) [v, u]) Q E s := by
  refine wpAny_call ?_
  refine' code_fn (news := []) (binds := [(Str.ofString "one", v), (Str.ofString "other", u)]) ?k1 ?k2 ?k3 ?k4 ?k6 ?k7 ?k8 ?k9 ?kB ?_ ?c2 ?c3 ?c4 ?c5
  case k1 => exact kp
  case k2 => exact X
  case k3 => exact T
  case k4 => (intro q hq; exact nomatch hq)
  case k6 => k_is
  case k7 => k_is
  case k8 => (simp only [recursionLimit] at *; omega)
  case k9 => first | exact BindsTo.of_eq rfl | exact binds_K (X.keeps kp) rfl (by k_is) rfl rfl rfl
  case kB => exact locs rfl
  case c2 => exact rfl
  case c3 => exact rfl
  case c4 => exact rfl
  case c5 => decide
  intro g L' h₁ hg hkg hgs F N X' T'
  dsimp only
  k_fold
  have kg : ∀ b o, s.heap.get? b = some o → g.get? b = some o := fun b o e => hkg b o e (fun h => nomatch h)
  have hvg := hv.keep hg
  have hug := hu.keep hg
  k_steps
  refine eq_av (hvg.keep F.keep) (hug.keep F.keep) (by units_room) ?_
  by_cases hab : a = b
  · rw [decide_eq_true hab] at ret ⊢
    subst hab
    cases a with
    | none =>
      obtain rfl : v = .none := hvg
      obtain rfl : u = .none := hug
      k_steps
      (try dsimp only)
      exact ret _ _ (fun b o e _ => F.keep _ _ (kg _ _ e))
    | str x =>
      obtain ⟨t1, rfl⟩ := hvg
      obtain ⟨t2, rfl⟩ := hug
      k_steps
      (try dsimp only)
      exact ret _ _ (fun b o e _ => F.keep _ _ (kg _ _ e))
    | tup ss =>
      obtain ⟨c1, vs1, rfl, hT1, hS1⟩ := hvg
      obtain ⟨c2, vs2, rfl, hT2, hS2⟩ := hug
      k_steps
      refine isinst_tup (hT1.keeps F.keep) ?_
      k_steps
      refine isinst_tup (hT2.keeps F.keep) ?_
      k_steps
      (try dsimp only)
      exact ret _ _ (fun b o e _ => F.keep _ _ (kg _ _ e))
  · rw [decide_eq_false hab] at ret ⊢
    k_steps
    (try dsimp only)
    exact ret _ _ (fun b o e _ => F.keep _ _ (kg _ _ e))
end
end

section
section
variable {prog : Program} {w : World} {A : Around} {E : Value → Shared → Prop} {s : Shared} {h₀ : Heap} {L : Addr} {m : Str → Option Value} {news : List (Addr × Obj)}
theorem slice_fromK {value slice : PySem.Expr} {l : Addr} {vs : List Value} {k : Nat} {ki : Int} {u : Tok} {ops : List Value} {Q : Value → Shared → Prop}
    (F : Fr h₀ L s.heap m) (N : News h₀ L s.heap news) (hl : s.heap.IsList l (List.toArray vs)) (hk : ki = (k : Int)) (hz : vs.length ≤ 5000)
    (h : ∀ D h', Fr h₀ L h' m → News h₀ L h' ((D, listOf (List.toArray (vs.drop k)) 0) :: news) → (∀ p ∈ news, p.1 < D) → Q (.ref D) { s with heap := h' })
    (hs : subscripted slice false (.ref l) (.ref s.heap.objs.size) = operate ops (getItem (.ref l) (.ref s.heap.objs.size)) := by with_unfolding_all rfl)
    (ht : ∀ r, letTemporaryGo value (.ref l) r = pure () := by intro _; with_unfolding_all rfl) :
    wpAny (model prog w) A (subscriptTail value slice (.ref l) (.ref s.heap.objs.size)) Q E { s with heap := s.heap.push { cls := .type "slice", data := .fields #[.int ki u, .none, .none] } } := by
  subst hk
  refine slice_list3 F N hl (lo := some (k : Int)) (hi := none) (st := none) (.int _ _) .none .none (by simp) (fun h' F' N' => ?_) hs ht (by rw [sizeLine_eq]; simp; omega)
  rw [slicePick_from'] at N'
  exact h _ h' F' N' (fun p hp => Nat.lt_succ_of_lt (Heap.lt_size (N p hp).1))
theorem slice_uptoK {value slice : PySem.Expr} {l : Addr} {vs : List Value} {k : Nat} {ki : Int} {u : Tok} {ops : List Value} {Q : Value → Shared → Prop}
    (F : Fr h₀ L s.heap m) (N : News h₀ L s.heap news) (hl : s.heap.IsList l (List.toArray vs)) (hk : ki = (k : Int)) (hz : vs.length ≤ 5000)
    (h : ∀ D h', Fr h₀ L h' m → News h₀ L h' ((D, listOf (List.toArray (vs.take k)) 0) :: news) → (∀ p ∈ news, p.1 < D) → Q (.ref D) { s with heap := h' })
    (hs : subscripted slice false (.ref l) (.ref s.heap.objs.size) = operate ops (getItem (.ref l) (.ref s.heap.objs.size)) := by with_unfolding_all rfl)
    (ht : ∀ r, letTemporaryGo value (.ref l) r = pure () := by intro _; with_unfolding_all rfl) :
    wpAny (model prog w) A (subscriptTail value slice (.ref l) (.ref s.heap.objs.size)) Q E { s with heap := s.heap.push { cls := .type "slice", data := .fields #[.none, .int ki u, .none] } } := by
  subst hk
  refine slice_list3 F N hl (lo := none) (hi := some (k : Int)) (st := none) .none (.int _ _) .none (by simp) (fun h' F' N' => ?_) hs ht (by rw [sizeLine_eq]; simp; omega)
  rw [slicePick_upto'] at N'
  exact h _ h' F' N' (fun p hp => Nat.lt_succ_of_lt (Heap.lt_size (N p hp).1))
theorem add_listsK {l b : Addr} {vs ws : List Value} {Q : Value → Shared → Prop} (F : Fr h₀ L s.heap m) (N : News h₀ L s.heap news) (hl : s.heap.IsList l (List.toArray vs)) (hb : s.heap.IsList b (List.toArray ws)) (hsz : vs.length + ws.length ≤ 10000)
    (h : ∀ D h', Fr h₀ L h' m → News h₀ L h' ((D, listOf (List.toArray (vs ++ ws)) 0) :: news) → (∀ p ∈ news, p.1 < D) → Q (.ref D) { s with heap := h' }) :
    wpAny (model prog w) A (binaryOp .Add (.ref l) (.ref b)) Q E s :=
  add_lists F N hl hb (fun h' F' N' => h _ h' F' N' (fun p hp => Heap.lt_size (N p hp).1)) (by rw [sizeLine_eq]; omega)
end
end
end

section
local macro_rules | `(tactic| walk_at "subscriptTail Name Slice ref ref") => `(tactic| with_reducible refine hold ?_)
local macro_rules | `(tactic| walk_at "call ref") => `(tactic| with_reducible refine hold ?_)
local macro_rules | `(tactic| k_all) => `(tactic| assumption)
local macro_rules | `(tactic| walk_at "binaryOp Add ref ref") => `(tactic| with_reducible refine hold ?_)
local macro_rules | `(tactic| walk_at "exec If BoolOp cons nil") => `(tactic| with_reducible refine hold ?_)
/-- all sequences of h are in g -/
def SeqKeep (h g : Heap) : Prop := ∀ b o xs n, h.get? b = some o → o.data = .seq xs n → g.get? b = some o
theorem SeqKeep.of {h g : Heap} {ds : List Addr} (hk : KeepBut ds h g) (hd : ∀ d ∈ ds, ∀ o xs n, h.get? d = some o → o.data ≠ .seq xs n) : SeqKeep h g := fun b o xs n e hs => hk b o e (fun hm => hd b hm o xs n e hs)
theorem SeqKeep.all {h g : Heap} (k : ∀ b o, h.get? b = some o → g.get? b = some o) : SeqKeep h g := fun b o _ _ e _ => k b o e
theorem SeqKeep.trans {h g k : Heap} (a : SeqKeep h g) (b : SeqKeep g k) : SeqKeep h k := fun c o xs n e hs => b c o xs n (a c o xs n e hs) hs
theorem SeqKeep.tup {h g : Heap} (k : SeqKeep h g) {a : Addr} {xs : Array Value} (x : IsTup h a xs) : IsTup g a xs := by
  obtain ⟨o, ho, hc, n, hd⟩ := x
  exact ⟨o, k a o _ _ ho hd, hc, n, hd⟩
theorem SeqKeep.list {h g : Heap} (k : SeqKeep h g) {a : Addr} {xs : Array Value} (x : h.IsList a xs) : g.IsList a xs := by
  obtain ⟨o, ho, hc, n, hd⟩ := x
  exact ⟨o, k a o _ _ ho hd, hc, n, hd⟩
theorem SeqKeep.vis {h g : Heap} (k : SeqKeep h g) {v : Value} {a : AV} (x : VIs h v a) : VIs g v a := by
  cases a with
  | none => exact x
  | str _ => exact x
  | tup ss =>
    obtain ⟨a, vs, e, t, r⟩ := x
    exact ⟨a, vs, e, k.tup t, r⟩
theorem SeqKeep.vare {h g : Heap} (k : SeqKeep h g) {vs : List Value} {as : List AV} (x : VAre h vs as) : VAre g vs as := by
  induction x with
  | nil => exact .nil
  | cons a _ ih => exact .cons (k.vis a) ih

/-- the state behind an if of put: two short lists of starts and values -/
def PutMid (g : Heap) (L : Addr) (s : Shared) (fix : List (Addr × Obj)) (ra : Addr) (v : Value) (lo hi : Int) (q : List (Int × AV)) (f : Flow) (s' : Shared) : Prop :=
  f = .next ∧ ∃ h' tk' m' tl th sl vl us ws e1 e2, s' = { s with heap := h', toks := tk' } ∧ Fr g L h' m' ∧ News g L h' ((vl, listOf (List.toArray ws) e2) :: (sl, listOf (List.toArray us) e1) :: fix) ∧ m' (Str.ofString "self") = some (.ref ra) ∧ m' (Str.ofString "value") = some v ∧
    m' (Str.ofString "low") = some (.int lo tl) ∧ m' (Str.ofString "high") = some (.int hi th) ∧ m' (Str.ofString "starts") = some (.ref sl) ∧ m' (Str.ofString "values") = some (.ref vl) ∧ IntsAre us (q.map (·.1)) ∧ VAre g ws (q.map (·.2)) ∧ vl ≠ sl ∧ ∀ p ∈ fix, p.1 ≠ vl ∧ p.1 ≠ sl

section
variable {w : World} {mg mb : Str → Option Value} {mean : ExcName → Option Value} {loose : List Str} {h₀ : Heap} {dp un : Nat} {fr : Option (List Env)} {gd : Option (List Code)} {s : Shared} {Q : Value → Shared → Prop} {E : Value → Shared → Prop}
theorem rm_put_ok {ra rd S V : Addr} {sv vv : List Value} {p : List (Int × AV)} {t1 t2 t3 : Tok} {dv v : Value} {c : Int} {tc td : Tok} {a : AV}
    (kp : ∀ b o, h₀.get? b = some o → s.heap.get? b = some o) (X : (hd.heap_1 w.params).In h₀) (T : Top hVw loose mean mg mb h₀) (hdp : dp ≤ 890) (hun : un ≤ 8900)
    (R : RmAt w s.heap ra rd S V sv vv (p.map (·.1)) (p.map (·.2)) t1 t2 t3 dv) (gp : Good p) (hl : p.length ≤ 900) (hc : 1 ≤ c) (hc2 : c < 1000) (hv : VIs s.heap v a) (h0a : h₀.get? ra = none) (h0d : h₀.get? rd = none)
    (ret : ∀ S' V' sv' vv' t2' t3' h' tk', KeepBut [rd] s.heap h' → s.heap.get? S' = none → s.heap.get? V' = none → RmAt w h' ra rd S' V' sv' vv' ((putP p c a).map (·.1)) ((putP p c a).map (·.2)) t1 t2' t3' dv → Q .none { s with heap := h', toks := tk' }) :
    wpAny (model PR w) (AX dp un fr gd) (call (.ref 105) [.ref ra, .int c tc, .int c td, v]) Q E s := by
  have hrd := R.inst.dict
  have hra := R.inst.at_
  have hne : ra ≠ rd := fun e => by
    rw [e] at hra
    have := hra.symm.trans hrd
    exact absurd (congrArg Obj.cls (Option.some.inj this)) (by simp)
  have hnews : ∀ q ∈ [(ra, instObj 122 rd), (rd, dictOf (rmEs w t1 t2 t3 dv S V) 3)], s.heap.get? q.1 = some q.2 ∧ h₀.get? q.1 = none := by
    intro q hq
    simp only [List.mem_cons, List.not_mem_nil, or_false] at hq
    rcases hq with rfl | rfl
    · exact ⟨hra, h0a⟩
    · exact ⟨hrd, h0d⟩
  refine wpAny_call ?_
  refine' code_fn (news := [(ra, instObj 122 rd), (rd, dictOf (rmEs w t1 t2 t3 dv S V) 3)]) (binds := [(Str.ofString "self", .ref ra), (Str.ofString "first", .int c tc), (Str.ofString "last", .int c td), (Str.ofString "value", v)]) ?k1 ?k2 ?k3 ?k4 ?k6 ?k7 ?k8 ?k9 ?kB ?_ ?c2 ?c3 ?c4 ?c5
  case k1 => exact kp
  case k2 => exact X
  case k3 => exact T
  case k4 => (intro q hq; exact hnews q hq)
  case k6 => k_is
  case k7 => k_is
  case k8 => (simp only [recursionLimit] at *; omega)
  case k9 => first | exact BindsTo.of_eq rfl | exact binds_K (X.keeps kp) rfl (by k_is) rfl rfl rfl
  case kB => exact locs rfl
  case c2 => exact rfl
  case c3 => exact rfl
  case c4 => exact rfl
  case c5 => decide
  intro g L' h₁ hg hkg hgs F N X' T'
  dsimp only
  k_fold
  have sk : SeqKeep s.heap g := SeqKeep.of hkg (by
    intro d hd o xs n e
    simp only [List.map_cons, List.map_nil, List.mem_cons, List.not_mem_nil, or_false] at hd
    rcases hd with rfl | rfl
    · rw [hra] at e; cases e; simp
    · rw [hrd] at e; cases e; simp)
  have hSg := sk.list R.starts
  have hVg := sk.list R.values
  have hAg := sk.vare R.vals
  have hvg := sk.vis hv
  have hnum := R.num
  have hlen1 : (p.map (·.1)).length ≤ 1000 := by simp; omega
  have hlo := gp.pos (x := c - 1) (by omega)
  have hhi := gp.pos (x := c + 1) (by omega)
  have hloL := cnt_len p (c - 1)
  have hhiL := cnt_len p (c + 1)
  have hsvL := hnum.length
  have hvvL := hAg.length
  simp only [List.length_map] at hsvL hvvL
  have hsrt := gp.srt
  clear X T kp
  k_steps
  show wpAny _ _ _ _ _ _
  rename Fr _ _ _ _ => F1
  rename News _ _ _ _ => N1
  refine place_ok F1.keep X' T' (by (try dsimp only); omega) (by (try dsimp only); omega) (hSg.at fun o e => F1.keep _ o e) hnum hlen1 hsrt fun tp h' tk' hk => ?_
  have F2 := Fr.behind0 F1 hk
  have N2 := News.behind0 N1 hk
  clear F1 N1 hk
  k_steps
  show wpAny _ _ _ _ _ _
  rename Fr _ _ _ _ => F3
  rename News _ _ _ _ => N3
  refine place_ok F3.keep X' T' (by (try dsimp only); omega) (by (try dsimp only); omega) (hSg.at fun o e => F3.keep _ o e) hnum hlen1 hsrt fun tp2 h' tk' hk => ?_
  have F4 := Fr.behind0 F3 hk
  have N4 := News.behind0 N3 hk
  clear F3 N3 hk
  k_steps
  rename Fr _ _ _ _ => F5
  rename News _ _ _ _ => N5
  obtain ⟨bv, hbv⟩ : ∃ bv, vv[cntLe (p.map (·.1)) (c + 1) - 1]? = some bv := ⟨_, List.getElem?_eq_getElem (by omega)⟩
  have hbV := den_is gp (by omega) hAg hbv
  obtain ⟨lv, hlv⟩ : ∃ lv, vv[cntLe (p.map (·.1)) (c - 1) - 1]? = some lv := ⟨_, List.getElem?_eq_getElem (by omega)⟩
  have hlV := den_is gp (by omega) hAg hlv
  refine item_listV (vs := vv) (v := bv) ((show g.IsList V (List.toArray vv) by assumption).at fun o e => F5.keep _ o e) (by omega) (by omega) (by rw [← hbv]; congr 1; omega) ?_ (by with_unfolding_all rfl)
  k_steps
  all_goals (try (exfalso; omega))
  show wpAny _ _ _ _ _ _
  rename Fr _ _ _ _ => F6
  rename News _ _ _ _ => N6
  have hVl : g.IsList V (List.toArray vv) := by assumption
  have hSl : g.IsList S (List.toArray sv) := by assumption
  refine wpAny_mono (Q := PutMid g L' s [(ra, instObj 122 rd), (rd, dictOf (rmEs w t1 t2 t3 dv S V) 3)] ra v (cntLe (p.map (·.1)) (c - 1) - 1 + 1) (cntLe (p.map (·.1)) (c + 1) - 1 + 1) ((c, a) :: (if den p (c + 1) = a then [] else [(c + 1, den p (c + 1))]))) ?first ?rest (fun _ _ x => x)
  case first =>
    refine wpAny_If ?_
    k_steps
    all_goals (try (exfalso; omega))
    show wpAny _ _ _ _ _ _
    refine range_like_ok F6.keep X' T' (by (try dsimp only); omega) (by (try dsimp only); omega) hbV hvg fun h' tk' hk => ?_
    have F7 := Fr.behind0 F6 hk
    have N7 := News.behind0 N6 hk
    clear F6 N6 hk
    by_cases hb2 : den p (c + 1) = a
    · rw [decide_eq_true hb2, if_pos hb2]
      k_steps
      all_goals (try (exfalso; omega))
      rename Fr _ _ _ _ => F8
      rename News _ _ _ _ => N8
      refine ⟨rfl, _, _, _, _, _, _, _, [.int c tc], [v], 0, 0, rfl, F8, News.sub N8 ?_, rfl, rfl, rfl, rfl, rfl, rfl, .cons _ _ .nil, .cons hvg .nil, ?_, ?_⟩
      · intro p hp
        simp only [List.mem_cons, List.not_mem_nil, or_false] at hp
        rcases hp with rfl | rfl | rfl | rfl <;> k_mem
      · k_ne
      · intro p hp
        simp only [List.mem_cons, List.not_mem_nil, or_false] at hp
        rcases hp with rfl | rfl <;> exact ⟨by k_ne, by k_ne⟩
    · rw [decide_eq_false hb2, if_neg hb2]
      k_steps
      all_goals (try (exfalso; omega))
      rename Fr _ _ _ _ => F8
      rename News _ _ _ _ => N8
      refine ⟨rfl, _, _, _, _, _, _, _, [.int c tc, .int (c + 1) (tk' + 1)], [v, bv], 1, 1, rfl, F8, News.sub N8 ?_, rfl, rfl, rfl, rfl, rfl, rfl, .cons _ _ (.cons _ _ .nil), .cons hvg (.cons hbV .nil), ?_, ?_⟩
      · intro p hp
        simp only [List.mem_cons, List.not_mem_nil, or_false] at hp
        rcases hp with rfl | rfl | rfl | rfl <;> k_mem
      · k_ne
      · intro p hp
        simp only [List.mem_cons, List.not_mem_nil, or_false] at hp
        rcases hp with rfl | rfl <;> exact ⟨by k_ne, by k_ne⟩
  case rest =>
    rintro f s' ⟨rfl, h', tk', m', tl, th, sl, vl, us, ws, e1, e2, rfl, F8, N8, ms, mv, ml, mh, mst, mva, hU, hWs, hvs, hfix⟩
    clear F6 N6
    have hfa := hfix _ (.head _)
    have hfd := hfix _ (.tail _ (.head _))
    dsimp only at hfa hfd
    k_steps
    show wpAny _ _ _ _ _ _
    refine wpAny_mono (Q := PutMid g L' s [(ra, instObj 122 rd), (rd, dictOf (rmEs w t1 t2 t3 dv S V) 3)] ra v (cntLe (p.map (·.1)) (c - 1) - 1 + 1) (cntLe (p.map (·.1)) (c + 1) - 1 + 1) ((if den p (c - 1) = a then [] else [(c, a)]) ++ (if den p (c + 1) = a then [] else [(c + 1, den p (c + 1))]))) ?first ?rest (fun _ _ x => x)
    case first =>
      refine wpAny_If ?_
      k_steps
      all_goals (try (exfalso; omega))
      rename Fr _ _ _ _ => F9
      rename News _ _ _ _ => N9
      refine item_listV (vs := vv) (v := lv) (hVl.at fun o e => F9.keep _ o e) (by omega) (by omega) (by rw [← hlv]; congr 1; omega) ?_ (by with_unfolding_all rfl)
      k_steps
      show wpAny _ _ _ _ _ _
      refine range_like_ok F9.keep X' T' (by (try dsimp only); omega) (by (try dsimp only); omega) hlV hvg fun h' tk' hk => ?_
      have F10 := Fr.behind0 F9 hk
      have N10 := News.behind0 N9 hk
      clear F9 N9 hk
      by_cases hb2 : den p (c - 1) = a
      · rw [decide_eq_true hb2, if_pos hb2]
        k_steps
        show wpAny _ _ _ _ _ _
        refine slice_fromK (s := { s with heap := h', toks := _ }) (k := 1) F10 N10 (vs := us) ⟨_, N10.get (o := listOf (List.toArray us) e1) (by k_mem), rfl, _, rfl⟩ rfl (by rw [hU.length]; simp; split <;> simp) (fun D1 h11 F11 N11 l11 => ?_)
        k_steps
        show wpAny _ _ _ _ _ _
        refine slice_fromK (s := { s with heap := h11, toks := _ }) (k := 1) F11 N11 (vs := ws) ⟨_, N11.get (o := listOf (List.toArray ws) e2) (by k_mem), rfl, _, rfl⟩ rfl (by rw [hWs.length]; simp; split <;> simp) (fun D2 h12 F12 N12 l12 => ?_)
        k_steps
        rename Fr _ _ _ _ => F13
        rename News _ _ _ _ => N13
        refine ⟨rfl, _, _, _, _, _, D1, D2, us.drop 1, ws.drop 1, 0, 0, rfl, F13, News.sub N13 ?_, ms, mv, ml, mh, rfl, rfl, hU.drop 1, hWs.drop 1, Ne.symm (Nat.ne_of_lt (l12 (D1, _) (.head _))), ?_⟩
        · intro p hp
          simp only [List.mem_cons, List.not_mem_nil, or_false] at hp
          rcases hp with rfl | rfl | rfl | rfl <;> k_mem
        · intro p hp
          exact ⟨Nat.ne_of_lt (l12 p (.tail _ (.tail _ (.tail _ hp)))), Nat.ne_of_lt (l11 p (.tail _ (.tail _ hp)))⟩
      · rw [decide_eq_false hb2, if_neg hb2]
        k_steps
        exact ⟨rfl, _, _, _, _, _, _, _, us, ws, e1, e2, rfl, F10, N10, ms, mv, ml, mh, mst, mva, hU, hWs, hvs, hfix⟩
    case rest =>
      rintro f s' ⟨rfl, h', tk', m', tl2, th2, sl2, vl2, us2, ws2, e3, e4, rfl, F9, N9, ms, mv, ml, mh, mst, mva, hU2, hWs2, hvs2, hfix2⟩
      clear F8 N8
      have hfa2 := hfix2 _ (.head _)
      have hfd2 := hfix2 _ (.tail _ (.head _))
      dsimp only at hfa2 hfd2
      have hUL := hU2.length
      have hWL := hWs2.length
      have hml : ((if den p (c - 1) = a then [] else [(c, a)]) ++ (if den p (c + 1) = a then [] else [(c + 1, den p (c + 1))])).length ≤ 2 := by split <;> split <;> simp
      generalize hmid : (if den p (c - 1) = a then [] else [(c, a)]) ++ (if den p (c + 1) = a then [] else [(c + 1, den p (c + 1))]) = mid at hU2 hWs2 hUL hWL hml
      simp only [List.length_map] at hUL hWL
      k_steps
      show wpAny _ _ _ _ _ _
      refine slice_uptoK (s := { s with heap := h', toks := _ }) (k := cntLe (p.map (·.1)) (c - 1)) F9 N9 (vs := sv) (hSl.at fun o e => F9.keep _ o e) (by omega) (by omega) (fun D1 h11 F11 N11 l11 => ?_)
      k_steps
      show wpAny _ _ _ _ _ _
      refine add_listsK F11 N11 (vs := sv.take (cntLe (p.map (·.1)) (c - 1))) (ws := us2) ⟨_, (N11 _ (.head _)).1, rfl, _, rfl⟩ ⟨_, N11.get (o := listOf (List.toArray us2) e3) (by k_mem), rfl, _, rfl⟩ (by rw [List.length_take]; omega) (fun D2 h12 F12 N12 l12 => ?_)
      k_steps
      show wpAny _ _ _ _ _ _
      refine slice_fromK (s := { s with heap := h12, toks := _ }) (k := cntLe (p.map (·.1)) (c + 1)) F12 N12 (vs := sv) (hSl.at fun o e => F12.keep _ o e) (by omega) (by omega) (fun D3 h13 F13 N13 l13 => ?_)
      k_steps
      show wpAny _ _ _ _ _ _
      refine add_listsK F13 N13 (vs := sv.take (cntLe (p.map (·.1)) (c - 1)) ++ us2) (ws := sv.drop (cntLe (p.map (·.1)) (c + 1))) ⟨_, N13.get (o := listOf _ 0) (by k_mem), rfl, _, rfl⟩ ⟨_, (N13 _ (.head _)).1, rfl, _, rfl⟩ (by rw [List.length_append, List.length_take, List.length_drop]; omega) (fun D4 h14 F14 N14 l14 => ?_)
      have q1 := l14 (rd, _) (.tail _ (.tail _ (.tail _ (.tail _ (.tail _ (.tail _ (.head _)))))))
      have q2 := l14 (ra, _) (.tail _ (.tail _ (.tail _ (.tail _ (.tail _ (.head _))))))
      have q3 := l14 (vl2, _) (.tail _ (.tail _ (.tail _ (.head _))))
      have q4 := l14 (sl2, _) (.tail _ (.tail _ (.tail _ (.tail _ (.head _)))))
      dsimp only at q1 q2 q3 q4
      have N15 := News.sub (news' := [(D4, listOf (List.toArray (sv.take (cntLe (p.map (·.1)) (c - 1)) ++ us2 ++ sv.drop (cntLe (p.map (·.1)) (c + 1)))) 0), (vl2, listOf (List.toArray ws2) e4), (ra, instObj 122 rd), (rd, dictOf (rmEs w t1 t2 t3 dv S V) 3)]) N14 (by
        intro p hp
        simp only [List.mem_cons, List.not_mem_nil, or_false] at hp
        rcases hp with rfl | rfl | rfl | rfl <;> k_mem)
      clear F9 N9 F11 N11 F12 N12 F13 N13 N14
      k_steps
      refine' set_dict ?k1 ?k2 ?k3 ?k4 ?k5 ?k6 ?k7 ?k8 ?k9 ?k10 ?k11 ?k12 ?k13 ?_
      case k1 => k_asm
      case k2 => k_asm
      case k3 => k_asm
      case k4 => k_inst
      case k5 => exact rfl
      case k6 => k_is
      case k7 => k_is
      case k8 => k_is
      case k9 => k_is
      case k10 => k_get
      case k11 => k_put
      case k12 => exact Upd.tail (Ne.symm (Nat.ne_of_lt q1)) (Upd.tail (Ne.symm hfd2.1) (Upd.tail hne (Upd.head (fun _ h => nomatch h))))
      case k13 => exact Nat.le_of_ble_eq_true rfl
      intro h15 F15 N16
      clear F14 N15
      k_steps
      show wpAny _ _ _ _ _ _
      refine slice_uptoK (s := { s with heap := h15, toks := _ }) (k := cntLe (p.map (·.1)) (c - 1)) F15 N16 (vs := vv) (hVl.at fun o e => F15.keep _ o e) (by omega) (by omega) (fun D5 h16 F16 N17 l16 => ?_)
      k_steps
      show wpAny _ _ _ _ _ _
      refine add_listsK F16 N17 (vs := vv.take (cntLe (p.map (·.1)) (c - 1))) (ws := ws2) ⟨_, (N17 _ (.head _)).1, rfl, _, rfl⟩ ⟨_, N17.get (o := listOf (List.toArray ws2) e4) (by k_mem), rfl, _, rfl⟩ (by rw [List.length_take]; omega) (fun D6 h17 F17 N18 l17 => ?_)
      k_steps
      show wpAny _ _ _ _ _ _
      refine slice_fromK (s := { s with heap := h17, toks := _ }) (k := cntLe (p.map (·.1)) (c + 1)) F17 N18 (vs := vv) (hVl.at fun o e => F17.keep _ o e) (by omega) (by omega) (fun D7 h18 F18 N19 l18 => ?_)
      k_steps
      show wpAny _ _ _ _ _ _
      refine add_listsK F18 N19 (vs := vv.take (cntLe (p.map (·.1)) (c - 1)) ++ ws2) (ws := vv.drop (cntLe (p.map (·.1)) (c + 1))) ⟨_, N19.get (o := listOf _ 0) (.tail _ (.head _)), rfl, _, rfl⟩ ⟨_, (N19 _ (.head _)).1, rfl, _, rfl⟩ (by rw [List.length_append, List.length_take, List.length_drop]; omega) (fun D8 h19 F19 N20 l19 => ?_)
      have q5 := l19 (rd, _) (.tail _ (.tail _ (.tail _ (.tail _ (.tail _ (.tail _ (.head _)))))))
      dsimp only at q5
      have N21 := News.sub (news' := [(D8, listOf (List.toArray (vv.take (cntLe (p.map (·.1)) (c - 1)) ++ ws2 ++ vv.drop (cntLe (p.map (·.1)) (c + 1)))) 0), (D4, listOf (List.toArray (sv.take (cntLe (p.map (·.1)) (c - 1)) ++ us2 ++ sv.drop (cntLe (p.map (·.1)) (c + 1)))) 0), (ra, instObj 122 rd), (rd, _)]) N20 (by
        intro p hp
        simp only [List.mem_cons, List.not_mem_nil, or_false] at hp
        rcases hp with rfl | rfl | rfl | rfl <;> k_mem)
      clear F16 N17 F17 N18 F18 N19 N20 F15 N16
      k_steps
      refine' set_dict ?k1 ?k2 ?k3 ?k4 ?k5 ?k6 ?k7 ?k8 ?k9 ?k10 ?k11 ?k12 ?k13 ?_
      case k1 => k_asm
      case k2 => k_asm
      case k3 => k_asm
      case k4 => k_inst
      case k5 => exact rfl
      case k6 => k_is
      case k7 => k_is
      case k8 => k_is
      case k9 => k_is
      case k10 => k_get
      case k11 => k_put
      case k12 => exact Upd.tail (Ne.symm (Nat.ne_of_lt q5)) (Upd.tail (Ne.symm (Nat.ne_of_lt q1)) (Upd.tail hne (Upd.head (fun _ h => nomatch h))))
      case k13 => exact Nat.le_of_ble_eq_true rfl
      intro h20 F20 N22
      clear F19 N21
      k_steps
      (try dsimp only)
      have hk : KeepBut [rd] s.heap h20 := by
        intro b o e hb
        by_cases hba : b = ra
        · subst hba
          rw [hra] at e; cases e
          exact (N22 _ (.tail _ (.tail _ (.head _)))).1
        · exact F20.keep _ _ (hkg b o e (by simp only [List.map_cons, List.map_nil, List.mem_cons, List.not_mem_nil, or_false, not_or]; exact ⟨hba, by simpa using hb⟩))
      have frs : ∀ {b : Addr}, g.get? b = none → b ≠ ra → b ≠ rd → s.heap.get? b = none := fun {b} hb h1 h2 => by
        cases q : s.heap.get? b with
        | none => rfl
        | some o' => exact absurd (hb.symm.trans (hkg _ _ q (by simp only [List.map_cons, List.map_nil, List.mem_cons, List.not_mem_nil, or_false, not_or]; exact ⟨h1, h2⟩))) (by simp)
      refine ret D4 D8 (sv.take (cntLe (p.map (·.1)) (c - 1)) ++ us2 ++ sv.drop (cntLe (p.map (·.1)) (c + 1))) (vv.take (cntLe (p.map (·.1)) (c - 1)) ++ ws2 ++ vv.drop (cntLe (p.map (·.1)) (c + 1))) t2 t3 h20 _ hk (frs (N22 _ (.tail _ (.head _))).2.2 (Ne.symm (Nat.ne_of_lt q2)) (Ne.symm (Nat.ne_of_lt q1))) (frs (N22 _ (.head _)).2.2 (Ne.symm (Nat.ne_of_lt (l19 (ra, _) (.tail _ (.tail _ (.tail _ (.tail _ (.tail _ (.head _))))))))) (Ne.symm (Nat.ne_of_lt q5))) ?rm
      case rm =>
        have e1 : (putP p c a) = p.take (cntLe (p.map (·.1)) (c - 1)) ++ mid ++ p.drop (cntLe (p.map (·.1)) (c + 1)) := by unfold putP; rw [hmid]
        rw [e1]
        refine ⟨⟨(N22 _ (.tail _ (.tail _ (.head _)))).1, R.inst.cls, R.inst.no, (N22 _ (.tail _ (.tail _ (.tail _ (.head _))))).1⟩, ⟨_, (N22 _ (.tail _ (.head _))).1, rfl, _, rfl⟩, ?_, ⟨_, (N22 _ (.head _)).1, rfl, _, rfl⟩, ?_, by simp⟩
        · rw [List.map_append, List.map_append, List.map_take, List.map_drop]
          exact ((hnum.take _).append hU2).append (hnum.drop _)
        · rw [List.map_append, List.map_append, List.map_take, List.map_drop]
          exact (((hAg.take _).append hWs2).append (hAg.drop _)).keep F20.keep
end
end
section
local macro_rules | `(tactic| walk_at "exec While Compare cons nil") => `(tactic| with_reducible refine hold ?_)
local macro_rules | `(tactic| walk_at "exec For Name Name cons nil") => `(tactic| with_reducible refine hold ?_)
local macro_rules | `(tactic| walk_at "exec For Name Call cons nil") => `(tactic| with_reducible refine hold ?_)
local macro_rules | `(tactic| walk_at "exec For Name Subscript cons nil") => `(tactic| with_reducible refine hold ?_)
local macro_rules | `(tactic| walk_at "exec For Tuple Tuple cons nil") => `(tactic| with_reducible refine hold ?_)
local macro_rules | `(tactic| walk_at "eval ListComp Name cons") => `(tactic| with_reducible refine hold ?_)
local macro_rules | `(tactic| walk_at "eval ListComp Tuple cons") => `(tactic| with_reducible refine hold ?_)
local macro_rules | `(tactic| walk_at "eval ListComp Subscript cons") => `(tactic| with_reducible refine hold ?_)
local macro_rules | `(tactic| walk_at "call ref") => `(tactic| with_reducible refine hold ?_)
local macro_rules | `(tactic| walk_at "call builtin:sorted") => `(tactic| with_reducible refine hold ?_)
local macro_rules | `(tactic| walk_at "call type:tuple") => `(tactic| with_reducible refine hold ?_)
local macro_rules | `(tactic| walk_at "call type:list") => `(tactic| with_reducible refine hold ?_)
local macro_rules | `(tactic| walk_at "call builtin:list.append") => `(tactic| with_reducible refine hold ?_)
local macro_rules | `(tactic| walk_at "compareOp In str ref") => `(tactic| with_reducible refine hold ?_)
local macro_rules | `(tactic| walk_at "compareOp NotIn str ref") => `(tactic| with_reducible refine hold ?_)
local macro_rules | `(tactic| k_all) => `(tactic| assumption)
local macro_rules | `(tactic| walk_at "pyIter ref") => `(tactic| with_reducible refine hold ?_)

section
local macro_rules | `(tactic| walk_at "setItem ref str") => `(tactic| with_reducible refine hold ?_)
section
variable {w : World} {mg mb : Str → Option Value} {mean : ExcName → Option Value} {loose : List Str} {h₀ : Heap} {dp un : Nat} {fr : Option (List Env)} {gd : Option (List Code)} {s : Shared} {Q : Value → Shared → Prop} {E : Value → Shared → Prop}
theorem map_of_old_ok {da dd DF MP PP WD : Addr} {u1 u2 u3 u4 : Tok} {dk mk : List (Str × Value)} {nm : Str} {tn : Tok} {ra : Addr}
    (kp : ∀ b o, h₀.get? b = some o → s.heap.get? b = some o) (X : (hd.heap_1 w.params).In h₀) (T : Top hVw loose mean mg mb h₀) (hdp : dp ≤ 890) (hun : un ≤ 8900)
    (Dt : DataAt w s.heap da dd DF MP PP WD u1 u2 u3 u4 dk mk) (hm : valueAt mk nm = some (.ref ra))
    (ret : ∀ h' tk', KeepBut [] s.heap h' → Q (.ref ra) { s with heap := h', toks := tk' }) :
    wpAny (model PR w) (AX dp un fr gd) (call (.ref 168) [.ref da, .str nm tn]) Q E s := by
  refine wpAny_call ?_
  refine' code_fn (news := []) (binds := [(Str.ofString "self", .ref da), (Str.ofString "name", .str nm tn)]) ?k1 ?k2 ?k3 ?k4 ?k6 ?k7 ?k8 ?k9 ?kB ?_ ?c2 ?c3 ?c4 ?c5
  case k1 => exact kp
  case k2 => exact X
  case k3 => exact T
  case k4 => (intro q hq; exact nomatch hq)
  case k6 => k_is
  case k7 => k_is
  case k8 => (simp only [recursionLimit] at *; omega)
  case k9 => first | exact BindsTo.of_eq rfl | exact binds_K (X.keeps kp) rfl (by k_is) rfl rfl rfl
  case kB => exact locs rfl
  case c2 => exact rfl
  case c3 => exact rfl
  case c4 => exact rfl
  case c5 => decide
  intro g L' h₁ hg hkg hgs F N X' T'
  dsimp only
  k_fold
  have kg : ∀ b o, s.heap.get? b = some o → g.get? b = some o := fun b o e => hkg b o e (fun h => nomatch h)
  have Dg := Dt.keep kg
  have Jg := Dg.inst
  k_steps
  show wpAny _ _ _ _ _ _
  rename Fr _ _ _ _ => F1
  rename News _ _ _ _ => N1
  refine notin_dictO (Dg.maps.keep F1.keep) Dg.lmp (strKind_is PR w nm tn) ?_
  rw [show (valueAt mk nm).isSome = true by rw [hm]; rfl]
  k_steps
  refine item_dictO (Dg.maps.keep F1.keep) (strKind_is PR w nm tn) hm ?_ (by with_unfolding_all rfl)
  (try dsimp only)
  exact ret _ _ (fun b o e hb => F1.keep _ _ (kg _ _ e))

theorem map_of_new_ok {da dd DF MP PP WD : Addr} {u1 u2 u3 u4 : Tok} {dk mk : List (Str × Value)} {nm : Str} {tn : Tok}
    (kp : ∀ b o, h₀.get? b = some o → s.heap.get? b = some o) (X : (hd.heap_1 w.params).In h₀) (T : Top hVw loose mean mg mb h₀) (hdp : dp ≤ 880) (hun : un ≤ 8800)
    (Dt : DataAt w s.heap da dd DF MP PP WD u1 u2 u3 u4 dk mk) (hm : valueAt mk nm = none) (hml : mk.length ≤ 100) (h0 : h₀.get? MP = none) (hDM : DF ≠ MP) (hdd : dd ≠ MP)
    (ret : ∀ ra rd S V t1 t2 t3 tz c1 c2 h' tk', KeepBut [MP] s.heap h' → h'.DictOf (PySem.strKind PR w) MP (stored mk nm (.ref ra)) → (∀ x ∈ [ra, rd, S, V], s.heap.get? x = none ∧ x ≠ MP) → h'.get? ra = some (instObj 122 rd) → h'.get? rd = some (dictOf (rmEs w t1 t2 t3 ((valueAt dk nm).getD .none) S V) 3) →
      h'.get? S = some (listOf (List.toArray [.int 0 tz]) c1) → h'.get? V = some (listOf (List.toArray [(valueAt dk nm).getD .none]) c2) → Q (.ref ra) { s with heap := h', toks := tk' }) :
    wpAny (model PR w) (AX dp un fr gd) (call (.ref 168) [.ref da, .str nm tn]) Q E s := by
  obtain ⟨oM, hoM, hdM⟩ := Heap.dictOf_iff.mp Dt.maps
  refine wpAny_call ?_
  refine' code_fn (news := [(MP, oM)]) (binds := [(Str.ofString "self", .ref da), (Str.ofString "name", .str nm tn)]) ?k1 ?k2 ?k3 ?k4 ?k6 ?k7 ?k8 ?k9 ?kB ?_ ?c2 ?c3 ?c4 ?c5
  case k1 => exact kp
  case k2 => exact X
  case k3 => exact T
  case k4 => (intro q hq; (obtain rfl := List.mem_singleton.mp hq; exact ⟨hoM, h0⟩))
  case k6 => k_is
  case k7 => k_is
  case k8 => (simp only [recursionLimit] at *; omega)
  case k9 => first | exact BindsTo.of_eq rfl | exact binds_K (X.keeps kp) rfl (by k_is) rfl rfl rfl
  case kB => exact locs rfl
  case c2 => exact rfl
  case c3 => exact rfl
  case c4 => exact rfl
  case c5 => decide
  intro g L' h₁ hg hkg hgs F N X' T'
  dsimp only
  k_fold
  have hdaM : da ≠ MP := by
    intro e
    have h1 := Dt.inst.at_
    rw [e, hoM] at h1
    obtain ⟨es, ep, h2, _⟩ := hdM
    rw [Option.some.inj h1] at h2
    exact absurd h2.1 (by simp)
  have kg : ∀ b o, s.heap.get? b = some o → b ≠ MP → g.get? b = some o := fun b o e hb => hkg b o e (by simpa using hb)
  have Jg : InstAt g da (instObj 171 dd) 171 (some (dictOf (dataEs w u1 u2 u3 u4 DF MP PP WD) 4)) := ⟨kg _ _ Dt.inst.at_ hdaM, Dt.inst.cls, Dt.inst.no, kg _ _ Dt.inst.dict hdd⟩
  have Dfg : g.DictOf (PySem.strKind PR w) DF dk := Dt.dfl.at fun o e => kg _ o e hDM
  k_steps
  show wpAny _ _ _ _ _ _
  rename Fr _ _ _ _ => F1
  rename News _ _ _ _ => N1
  refine notin_dictO (Heap.dictOf_iff.mpr ⟨oM, (N1 _ (.head _)).1, hdM⟩) Dt.lmp (strKind_is PR w nm tn) ?_
  rw [show (valueAt mk nm).isSome = false by rw [hm]; rfl]
  k_steps
  refine getm_dictO (Dfg.keep F1.keep) ?_
  k_steps
  refine get1_dictO (Dfg.keep F1.keep) Dt.ldf (strKind_is PR w nm tn) ?_
  k_steps
  show wpAny _ _ _ _ _ _
  refine rm_new_ok F1 N1 X' T' (by (try dsimp only); omega) (by (try dsimp only); omega) (fun ra rd S V t1 t2 t3 tz c1 c2 h' tk' F2 N2 hnw => ?_)
  have hnM := hnw _ (.head _)
  dsimp only at hnM
  clear F1 N1
  k_steps
  show wpAny _ _ _ _ _ _
  refine set_head F2 (News.sub (news' := [(MP, oM), (ra, instObj 122 rd), (rd, dictOf (rmEs w t1 t2 t3 ((valueAt dk nm).getD .none) S V) 3), (S, listOf (List.toArray [.int 0 tz]) c1), (V, listOf (List.toArray [(valueAt dk nm).getD .none]) c2)]) N2 (fun p hp => by
    simp only [List.mem_cons, List.not_mem_nil, or_false] at hp
    rcases hp with rfl | rfl | rfl | rfl | rfl <;> k_mem)) (fun p hp => by
    simp only [List.mem_cons, List.not_mem_nil, or_false] at hp
    rcases hp with rfl | rfl | rfl | rfl
    · exact Ne.symm hnM.1
    · exact Ne.symm hnM.2.1
    · exact Ne.symm hnM.2.2.1
    · exact Ne.symm hnM.2.2.2) hdM (strKind_is PR w nm tn) (by omega) (fun h5 o5 F5 N5 hd5 => ?_)
  clear F2 N2
  k_steps
  have hD5 : h5.DictOf (PySem.strKind PR w) MP (stored mk nm (.ref ra)) := Heap.dictOf_iff.mpr ⟨o5, (N5 _ (.head _)).1, hd5⟩
  refine wpAny_getItem_of (strKind_is PR w nm tn) hD5.mapOf (valueAt_stored_self _ _ _) ?_
  (try dsimp only)
  have frs : ∀ {x : Addr}, g.get? x = none → x ≠ MP → s.heap.get? x = none := fun {x} hx hne => by
    cases q : s.heap.get? x with
    | none => rfl
    | some o' => exact absurd (hx.symm.trans (kg _ _ q hne)) (by simp)
  refine ret ra rd S V t1 t2 t3 tz c1 c2 _ _ (fun b o e hb => F5.keep _ _ (kg _ _ e (by simpa using hb))) (Heap.dictOf_iff.mpr ⟨o5, (N5 _ (.head _)).1, hd5⟩) (fun x hx => ?_) (N5 _ (.tail _ (.head _))).1 (N5 _ (.tail _ (.tail _ (.head _)))).1 (N5 _ (.tail _ (.tail _ (.tail _ (.head _))))).1 (N5 _ (.tail _ (.tail _ (.tail _ (.tail _ (.head _)))))).1
  simp only [List.mem_cons, List.not_mem_nil, or_false] at hx
  rcases hx with rfl | rfl | rfl | rfl
  · exact ⟨frs (N5 _ (.tail _ (.head _))).2.2 (Ne.symm hnM.1), Ne.symm hnM.1⟩
  · exact ⟨frs (N5 _ (.tail _ (.tail _ (.head _)))).2.2 (Ne.symm hnM.2.1), Ne.symm hnM.2.1⟩
  · exact ⟨frs (N5 _ (.tail _ (.tail _ (.tail _ (.head _))))).2.2 (Ne.symm hnM.2.2.1), Ne.symm hnM.2.2.1⟩
  · exact ⟨frs (N5 _ (.tail _ (.tail _ (.tail _ (.tail _ (.head _)))))).2.2 (Ne.symm hnM.2.2.2), Ne.symm hnM.2.2.2⟩
end
end

section
section
variable {w : World} {mg mb : Str → Option Value} {mean : ExcName → Option Value} {loose : List Str} {h₀ : Heap} {dp un : Nat} {fr : Option (List Env)} {gd : Option (List Code)} {s : Shared} {Q : Value → Shared → Prop} {E : Value → Shared → Prop}
theorem data_put_old_ok {da dd DF MP PP WD : Addr} {u1 u2 u3 u4 : Tok} {dk mk : List (Str × Value)} {nm : Str} {tn : Tok}
    {ra rd S V : Addr} {sv vv : List Value} {p : List (Int × AV)} {t1 t2 t3 : Tok} {dv v : Value} {c : Int} {tc td : Tok} {a : AV}
    (kp : ∀ b o, h₀.get? b = some o → s.heap.get? b = some o) (X : (hd.heap_1 w.params).In h₀) (T : Top hVw loose mean mg mb h₀) (hdp : dp ≤ 870) (hun : un ≤ 8700)
    (Dt : DataAt w s.heap da dd DF MP PP WD u1 u2 u3 u4 dk mk) (hm : valueAt mk nm = some (.ref ra))
    (R : RmAt w s.heap ra rd S V sv vv (p.map (·.1)) (p.map (·.2)) t1 t2 t3 dv) (gp : Good p) (hl : p.length ≤ 900) (hc : 1 ≤ c) (hc2 : c < 1000) (hv : VIs s.heap v a) (h0a : h₀.get? ra = none) (h0d : h₀.get? rd = none)
    (hdd : dd ≠ rd) (hDF : DF ≠ rd) (hMP : MP ≠ rd)
    (ret : ∀ S' V' sv' vv' t2' t3' h' tk', KeepBut [rd] s.heap h' → s.heap.get? S' = none → s.heap.get? V' = none → RmAt w h' ra rd S' V' sv' vv' ((putP p c a).map (·.1)) ((putP p c a).map (·.2)) t1 t2' t3' dv → Q .none { s with heap := h', toks := tk' }) :
    wpAny (model PR w) (AX dp un fr gd) (call (.ref 154) [.ref da, .str nm tn, .int c tc, .int c td, v]) Q E s := by
  have hrd := R.inst.dict
  have hra := R.inst.at_
  have hne : ra ≠ rd := fun e => by
    rw [e] at hra
    have := hra.symm.trans hrd
    exact absurd (congrArg Obj.cls (Option.some.inj this)) (by simp)
  have notra : ∀ {x : Addr} {o : Obj}, s.heap.get? x = some o → o.cls ≠ .ref 122 → x ≠ ra := fun {x o} e h q => by
    rw [q, hra] at e
    exact h (by rw [← Option.some.inj e])
  have hnews : ∀ q ∈ [(ra, instObj 122 rd), (rd, dictOf (rmEs w t1 t2 t3 dv S V) 3)], s.heap.get? q.1 = some q.2 ∧ h₀.get? q.1 = none := by
    intro q hq
    simp only [List.mem_cons, List.not_mem_nil, or_false] at hq
    rcases hq with rfl | rfl
    · exact ⟨hra, h0a⟩
    · exact ⟨hrd, h0d⟩
  refine wpAny_call ?_
  refine' code_fn (news := [(ra, instObj 122 rd), (rd, dictOf (rmEs w t1 t2 t3 dv S V) 3)]) (binds := [(Str.ofString "self", .ref da), (Str.ofString "name", .str nm tn), (Str.ofString "first", .int c tc), (Str.ofString "last", .int c td), (Str.ofString "value", v)]) ?k1 ?k2 ?k3 ?k4 ?k6 ?k7 ?k8 ?k9 ?kB ?_ ?c2 ?c3 ?c4 ?c5
  case k1 => exact kp
  case k2 => exact X
  case k3 => exact T
  case k4 => (intro q hq; exact hnews q hq)
  case k6 => k_is
  case k7 => k_is
  case k8 => (simp only [recursionLimit] at *; omega)
  case k9 => first | exact BindsTo.of_eq rfl | exact binds_K (X.keeps kp) rfl (by k_is) rfl rfl rfl
  case kB => exact locs rfl
  case c2 => exact rfl
  case c3 => exact rfl
  case c4 => exact rfl
  case c5 => decide
  intro g L' h₁ hg hkg hgs F N X' T'
  dsimp only
  k_fold
  have sk : SeqKeep s.heap g := SeqKeep.of hkg (by
    intro d hd o xs n e
    simp only [List.map_cons, List.map_nil, List.mem_cons, List.not_mem_nil, or_false] at hd
    rcases hd with rfl | rfl
    · rw [hra] at e; cases e; simp
    · rw [hrd] at e; cases e; simp)
  have kg : ∀ b o, s.heap.get? b = some o → b ≠ ra → b ≠ rd → g.get? b = some o := fun b o e h1 h2 => hkg b o e (by
    simp only [List.map_cons, List.map_nil, List.mem_cons, List.not_mem_nil, or_false, not_or]; exact ⟨h1, h2⟩)
  obtain ⟨oDF, hoDF, hdDF⟩ := Heap.dictOf_iff.mp Dt.dfl
  obtain ⟨oMP, hoMP, hdMP⟩ := Heap.dictOf_iff.mp Dt.maps
  have cDF : oDF.cls ≠ .ref 122 := by obtain ⟨es, ep, h2, _⟩ := hdDF; rw [h2.1]; simp
  have cMP : oMP.cls ≠ .ref 122 := by obtain ⟨es, ep, h2, _⟩ := hdMP; rw [h2.1]; simp
  have Dg : DataAt w g da dd DF MP PP WD u1 u2 u3 u4 dk mk := {
    inst := ⟨kg _ _ Dt.inst.at_ (notra Dt.inst.at_ (by simp)) (fun e => by
      have := Dt.inst.at_
      rw [e, hrd] at this
      exact absurd (congrArg Obj.cls (Option.some.inj this)) (by simp)), Dt.inst.cls, Dt.inst.no, kg _ _ Dt.inst.dict (notra Dt.inst.dict (by simp)) hdd⟩
    dfl := Heap.dictOf_iff.mpr ⟨oDF, kg _ _ hoDF (notra hoDF cDF) hDF, hdDF⟩
    maps := Heap.dictOf_iff.mpr ⟨oMP, kg _ _ hoMP (notra hoMP cMP) hMP, hdMP⟩
    ldf := Dt.ldf
    lmp := Dt.lmp }
  have Jg := Dg.inst
  k_steps
  show wpAny _ _ _ _ _ _
  rename Fr _ _ _ _ => F1
  rename News _ _ _ _ => N1
  refine map_of_old_ok F1.keep X' T' (by (try dsimp only); omega) (by (try dsimp only); omega) (Dg.keep F1.keep) hm (fun h' tk' hk => ?_)
  have F2 := Fr.behind0 F1 hk
  have N2 := News.behind0 N1 hk
  clear F1 N1 hk
  k_steps
  show wpAny _ _ _ _ _ _
  rename Fr _ _ _ _ => F3
  rename News _ _ _ _ => N3
  refine rm_put_ok F3.keep X' T' (by (try dsimp only); omega) (by (try dsimp only); omega) ⟨⟨(N3 _ (.head _)).1, R.inst.cls, R.inst.no, (N3 _ (.tail _ (.head _))).1⟩, (sk.list R.starts).at fun o e => F3.keep _ o e, R.num, (sk.list R.values).at fun o e => F3.keep _ o e, (sk.vare R.vals).keep F3.keep, R.len⟩ gp hl hc hc2 ((sk.vis hv).keep F3.keep) (N3 _ (.head _)).2.2 (N3 _ (.tail _ (.head _))).2.2
    (fun S' V' sv' vv' t2' t3' h' tk' hk hS' hV' R' => ?_)
  have up : ∀ b o, s.heap.get? b = some o → b ≠ rd → h'.get? b = some o := fun b o e hb => by
    by_cases hba : b = ra
    · subst hba
      rw [hra] at e; cases e
      exact R'.inst.at_
    · exact hk _ _ (F3.keep _ _ (kg _ _ e hba hb)) (by simpa using hb)
  have frs : ∀ {x : Addr}, _ → s.heap.get? x = none := fun {x} (hx : Heap.get? _ x = none) => by
    cases q : s.heap.get? x with
    | none => rfl
    | some o' =>
      by_cases h1 : x = ra
      · rw [h1, (N3 _ (.head _)).1] at hx; cases hx
      · by_cases h2 : x = rd
        · rw [h2, (N3 _ (.tail _ (.head _))).1] at hx; cases hx
        · exact absurd (hx.symm.trans (F3.keep _ _ (kg _ _ q h1 h2))) (by simp)
  k_steps
  (try dsimp only)
  exact ret S' V' sv' vv' t2' t3' h' tk' (fun b o e hb => up b o e (by simpa using hb)) (frs hS') (frs hV') R'

theorem data_put_new_ok {da dd DF MP PP WD : Addr} {u1 u2 u3 u4 : Tok} {dk mk : List (Str × Value)} {nm : Str} {tn : Tok} {v : Value} {c : Int} {tc td : Tok} {a d0 : AV}
    (kp : ∀ b o, h₀.get? b = some o → s.heap.get? b = some o) (X : (hd.heap_1 w.params).In h₀) (T : Top hVw loose mean mg mb h₀) (hdp : dp ≤ 870) (hun : un ≤ 8700)
    (Dt : DataAt w s.heap da dd DF MP PP WD u1 u2 u3 u4 dk mk) (hm : valueAt mk nm = none) (hml : mk.length ≤ 100) (h0 : h₀.get? MP = none) (hDM : DF ≠ MP) (hdd : dd ≠ MP)
    (hd0 : VIs s.heap ((valueAt dk nm).getD .none) d0) (hc : 1 ≤ c) (hc2 : c < 1000) (hv : VIs s.heap v a)
    (ret : ∀ ra rd S' V' sv' vv' t1 t2' t3' dv h' tk', KeepBut [MP] s.heap h' → h'.DictOf (PySem.strKind PR w) MP (stored mk nm (.ref ra)) → s.heap.get? ra = none → s.heap.get? rd = none →
      RmAt w h' ra rd S' V' sv' vv' ((putP [(0, d0)] c a).map (·.1)) ((putP [(0, d0)] c a).map (·.2)) t1 t2' t3' dv → Q .none { s with heap := h', toks := tk' }) :
    wpAny (model PR w) (AX dp un fr gd) (call (.ref 154) [.ref da, .str nm tn, .int c tc, .int c td, v]) Q E s := by
  obtain ⟨oM, hoM, hdM⟩ := Heap.dictOf_iff.mp Dt.maps
  have hdM2 := hdM
  refine wpAny_call ?_
  refine' code_fn (news := [(MP, oM)]) (binds := [(Str.ofString "self", .ref da), (Str.ofString "name", .str nm tn), (Str.ofString "first", .int c tc), (Str.ofString "last", .int c td), (Str.ofString "value", v)]) ?k1 ?k2 ?k3 ?k4 ?k6 ?k7 ?k8 ?k9 ?kB ?_ ?c2 ?c3 ?c4 ?c5
  case k1 => exact kp
  case k2 => exact X
  case k3 => exact T
  case k4 => (intro q hq; (obtain rfl := List.mem_singleton.mp hq; exact ⟨hoM, h0⟩))
  case k6 => k_is
  case k7 => k_is
  case k8 => (simp only [recursionLimit] at *; omega)
  case k9 => first | exact BindsTo.of_eq rfl | exact binds_K (X.keeps kp) rfl (by k_is) rfl rfl rfl
  case kB => exact locs rfl
  case c2 => exact rfl
  case c3 => exact rfl
  case c4 => exact rfl
  case c5 => decide
  intro g L' h₁ hg hkg hgs F N X' T'
  dsimp only
  k_fold
  have sk : SeqKeep s.heap g := SeqKeep.of hkg (by
    intro d hd o xs n e
    obtain rfl : d = MP := by simpa using hd
    rw [hoM] at e; cases e
    obtain ⟨es, ep, h2, h3, _⟩ := hdM2
    intro e2
    rw [h3] at e2; cases e2)
  have hdaM : da ≠ MP := by
    intro e
    have h1 := Dt.inst.at_
    rw [e, hoM] at h1
    obtain ⟨es, ep, h2, _⟩ := hdM2
    rw [Option.some.inj h1] at h2
    exact absurd h2.1 (by simp)
  have kg : ∀ b o, s.heap.get? b = some o → b ≠ MP → g.get? b = some o := fun b o e hb => hkg b o e (by simpa using hb)
  have Jg : InstAt g da (instObj 171 dd) 171 (some (dictOf (dataEs w u1 u2 u3 u4 DF MP PP WD) 4)) := ⟨kg _ _ Dt.inst.at_ hdaM, Dt.inst.cls, Dt.inst.no, kg _ _ Dt.inst.dict hdd⟩
  have mkD : ∀ (H : Heap) m', Fr g L' H m' → News g L' H [(MP, oM)] → DataAt w H da dd DF MP PP WD u1 u2 u3 u4 dk mk := fun H m' F N => {
    inst := ⟨F.keep _ _ (kg _ _ Dt.inst.at_ hdaM), Dt.inst.cls, Dt.inst.no, F.keep _ _ (kg _ _ Dt.inst.dict hdd)⟩
    dfl := (Dt.dfl.at fun o e => kg _ o e hDM).keep F.keep
    maps := Heap.dictOf_iff.mpr ⟨oM, (N _ (.head _)).1, hdM⟩
    ldf := Dt.ldf
    lmp := Dt.lmp }
  k_steps
  show wpAny _ _ _ _ _ _
  rename Fr _ _ _ _ => F1
  rename News _ _ _ _ => N1
  have hg0 : g.get? MP = none := (N1 _ (.head _)).2.2
  refine map_of_new_ok F1.keep X' T' (by (try dsimp only); omega) (by (try dsimp only); omega) (mkD _ _ F1 N1) hm hml hg0 hDM hdd (fun ra rd S V t1 t2 t3 tz c1 c2 h' tk' hk hD' hfr hra hrd hS hV => ?_)
  have F2 := Fr.behind F1 hk (by simpa using Ne.symm (N1 _ (.head _)).2.1) (by simpa using hg0)
  have fra := hfr ra (by simp)
  have frd := hfr rd (by simp)
  have N2 : News g L' h' [(ra, instObj 122 rd), (rd, dictOf (rmEs w t1 t2 t3 ((valueAt dk nm).getD .none) S V) 3)] :=
    News.made F1 (News.made (news := []) F1 (fun _ h => absurd h (by simp)) hrd frd.1) hra fra.1
  clear N1 mkD
  k_steps
  show wpAny _ _ _ _ _ _
  rename Fr _ _ _ _ => F3
  rename News _ _ _ _ => N3
  have hup : ∀ b o, s.heap.get? b = some o → b ≠ MP → h'.get? b = some o := fun b o e hb => hk _ _ (F1.keep _ _ (kg _ _ e hb)) (by simpa using hb)
  have sk2 : SeqKeep s.heap h' := fun b o xs n e hs => hup b o e (by
    rintro rfl
    rw [hoM] at e; cases e
    obtain ⟨es, ep, h2, h3, _⟩ := hdM2
    rw [h3] at hs; cases hs)
  have frs : ∀ x ∈ [ra, rd, S, V], s.heap.get? x = none := fun x hx => by
    have hx2 := hfr x hx
    cases q : s.heap.get? x with
    | none => rfl
    | some o' => exact absurd (hx2.1.symm.trans (F1.keep _ _ (kg _ _ q hx2.2))) (by simp)
  have fra2 := frs ra (by simp)
  have frd2 := frs rd (by simp)
  have gp : Good [((0 : Int), d0)] := ⟨by simp, ⟨d0, [], rfl⟩, by simp⟩
  refine rm_put_ok (p := [(0, d0)]) F3.keep X' T' (by (try dsimp only); omega) (by (try dsimp only); omega) ⟨InstAt.of_news N3 (.head _) (.tail _ (.head _)), ⟨_, hS, rfl, _, rfl⟩, .cons _ _ .nil, ⟨_, hV, rfl, _, rfl⟩, .cons (sk2.vis hd0) .nil, rfl⟩ gp (by simp) hc hc2 (sk2.vis hv) (N3 _ (.head _)).2.2 (N3 _ (.tail _ (.head _))).2.2
    (fun S' V' sv' vv' t2' t3' h2 tk2 hk2 hS' hV' R' => ?_)
  k_steps
  (try dsimp only)
  refine ret ra rd S' V' sv' vv' t1 t2' t3' _ h2 _ (fun b o e hb => hk2 _ _ (hup b o e (by simpa using hb)) ?_) (hD'.at fun o e => hk2 _ o e (by simpa using Ne.symm frd.2)) fra2 frd2 R'
  simp only [List.mem_cons, List.not_mem_nil, or_false]
  rintro rfl
  rw [frd2] at e; cases e
end
end

section
theorem RmAt.keepBut {w : World} {h h' : Heap} {ra rd S V x : Addr} {sv vv : List Value} {ns : List Int} {as : List AV} {t1 t2 t3 : Tok} {dv : Value} {o : Obj} {es : Array DictEntry} {k : Nat} (R : RmAt w h ra rd S V sv vv ns as t1 t2 t3 dv)
    (hk : KeepBut [x] h h') (hx : h.get? x = some o) (ho : o.data = .dict es k) (hne : rd ≠ x) : RmAt w h' ra rd S V sv vv ns as t1 t2 t3 dv := by
  have sk : SeqKeep h h' := SeqKeep.of hk (by
    intro d hd o' xs n e hs
    obtain rfl : d = x := by simpa using hd
    rw [hx] at e; cases e
    rw [ho] at hs; cases hs)
  have hra : ra ≠ x := by
    rintro rfl
    have := R.inst.at_
    rw [hx] at this; cases this
    exact absurd ho (by simp)
  exact ⟨⟨hk _ _ R.inst.at_ (by simpa using hra), R.inst.cls, R.inst.no, hk _ _ R.inst.dict (by simpa using hne)⟩, sk.list R.starts, R.num, sk.list R.values, sk.vare R.vals, R.len⟩

/-- what the data's maps say of a name: nothing yet, or p -/
def MapSt (w : World) (P : Addr → Prop) (h : Heap) (mk : List (Str × Value)) (nm : Str) (d0 : AV) (p : List (Int × AV)) (r : Option Addr) : Prop :=
  (r = none ∧ valueAt mk nm = none ∧ p = [(0, d0)]) ∨ ∃ ra rd S V sv vv t1 t2 t3 dv, r = some rd ∧ valueAt mk nm = some (.ref ra) ∧ RmAt w h ra rd S V sv vv (p.map (·.1)) (p.map (·.2)) t1 t2 t3 dv ∧ P ra ∧ P rd
theorem MapSt.keepBut {w : World} {P : Addr → Prop} {h h' : Heap} {mk : List (Str × Value)} {nm : Str} {d0 : AV} {p : List (Int × AV)} {r : Option Addr} {x : Addr} {o : Obj} {es : Array DictEntry} {k : Nat} (M : MapSt w P h mk nm d0 p r)
    (hk : KeepBut [x] h h') (hx : h.get? x = some o) (ho : o.data = .dict es k) (hne : r ≠ some x) : MapSt w P h' mk nm d0 p r := by
  rcases M with M | ⟨ra, rd, S, V, sv, vv, t1, t2, t3, dv, rfl, h2, h3, h4⟩
  · exact .inl M
  · exact .inr ⟨ra, rd, S, V, sv, vv, t1, t2, t3, dv, rfl, h2, h3.keepBut hk hx ho (fun e => hne (by rw [e])), h4⟩

/-- the data in the making: two names with what their maps say; what changes are dicts at addresses with P -/
def DSt (w : World) (P : Addr → Prop) (h : Heap) (da : Addr) (nm1 : Str) (d1 : AV) (p1 : List (Int × AV)) (nm2 : Str) (d2 : AV) (p2 : List (Int × AV)) (s1 s2 : Bool) : Prop :=
  ∃ dd DF MP PP WD u1 u2 u3 u4 dk mk r1 r2, DataAt w h da dd DF MP PP WD u1 u2 u3 u4 dk mk ∧ P MP ∧ DF ≠ MP ∧ dd ≠ MP ∧ mk.length ≤ 2 ∧ VIs h ((valueAt dk nm1).getD .none) d1 ∧ VIs h ((valueAt dk nm2).getD .none) d2 ∧
    MapSt w P h mk nm1 d1 p1 r1 ∧ MapSt w P h mk nm2 d2 p2 r2 ∧ (∀ x, r1 = some x → r2 ≠ some x) ∧ (∀ x, r1 = some x ∨ r2 = some x → dd ≠ x ∧ DF ≠ x ∧ MP ≠ x) ∧ (r1 = none → r2 = none → mk = []) ∧ (mk.length ≤ (if r1 = none then 0 else 1) + (if r2 = none then 0 else 1)) ∧ (s1 = true → r1 ≠ none) ∧ (s2 = true → r2 ≠ none) ∧ valueAt dk (Str.ofString "scx") = some .none ∧ P dd ∧ P DF
theorem DSt.swap {w : World} {P : Addr → Prop} {h : Heap} {da : Addr} {nm1 nm2 : Str} {d1 d2 : AV} {p1 p2 : List (Int × AV)} {s1 s2 : Bool} (D : DSt w P h da nm1 d1 p1 nm2 d2 p2 s1 s2) : DSt w P h da nm2 d2 p2 nm1 d1 p1 s2 s1 := by
  obtain ⟨dd, DF, MP, PP, WD, u1, u2, u3, u4, dk, mk, r1, r2, a, b, c, d, e, f, g, i, j, k, l, m, o, q1, q2, q3⟩ := D
  exact ⟨dd, DF, MP, PP, WD, u1, u2, u3, u4, dk, mk, r2, r1, a, b, c, d, e, g, f, j, i, fun x h1 h2 => k x h2 h1, fun x h => l x h.symm, fun h1 h2 => m h2 h1, by omega, q2, q1, q3⟩

theorem DSt.rep {w : World} {P : Addr → Prop} {h : Heap} {da : Addr} {d1 : AV} {p q : List (Int × AV)} {s2 : Bool} (D : DSt w P h da (Str.ofString "sc") d1 p (Str.ofString "scx") .none q true s2) (gp : Good p) (gq : Good q) : DataRep w h da p q := by
  obtain ⟨dd, DF, MP, PP, WD, u1, u2, u3, u4, dk, mk, r1, r2, a, b, c, d, e, f, g, i, j, k, l, m, o, q1, q2, q3⟩ := D
  rcases i with ⟨h1, _⟩ | ⟨ra, rd, S, V, sv, vv, t1, t2, t3, dv, h1, h2, h3, _⟩
  · exact absurd h1 (q1 rfl)
  · refine ⟨dd, DF, MP, PP, WD, u1, u2, u3, u4, dk, mk, ra, a, h2, ⟨rd, S, V, sv, vv, t1, t2, t3, dv, h3⟩, gp, gq, ?_⟩
    rcases j with ⟨_, j1, j2⟩ | ⟨ra2, rd2, S2, V2, sv2, vv2, t12, t22, t32, dv2, _, j2, j3, _⟩
    · exact .inl ⟨j1, q3.1, j2⟩
    · exact .inr ⟨ra2, j2, rd2, S2, V2, sv2, vv2, t12, t22, t32, dv2, j3⟩

section
variable {w : World} {mg mb : Str → Option Value} {mean : ExcName → Option Value} {loose : List Str} {h₀ : Heap} {dp un : Nat} {fr : Option (List Env)} {gd : Option (List Code)} {s : Shared} {Q : Value → Shared → Prop} {E : Value → Shared → Prop}
theorem data_put_ok {P : Addr → Prop} {da : Addr} {nm1 nm2 : Str} {d1 d2 a : AV} {p1 p2 : List (Int × AV)} {s1 s2 : Bool} {tn : Tok} {v : Value} {c : Int} {tc td : Tok}
    (kp : ∀ b o, h₀.get? b = some o → s.heap.get? b = some o) (X : (hd.heap_1 w.params).In h₀) (T : Top hVw loose mean mg mb h₀) (hdp : dp ≤ 870) (hun : un ≤ 8700)
    (D : DSt w P s.heap da nm1 d1 p1 nm2 d2 p2 s1 s2) (hnm : nm1 ≠ nm2) (hP0 : ∀ x, P x → h₀.get? x = none) (hPn : ∀ x, s.heap.get? x = none → P x) (gp : Good p1) (hl : p1.length ≤ 900) (hc : 1 ≤ c) (hc2 : c < 1000) (hv : VIs s.heap v a)
    (ret : ∀ h' tk', (∀ b o, s.heap.get? b = some o → (¬ P b ∨ ∀ es k, o.data ≠ .dict es k) → h'.get? b = some o) → (∀ dd' o, s.heap.get? da = some (instObj 171 dd') → s.heap.get? dd' = some o → h'.get? dd' = some o) → DSt w P h' da nm1 d1 (putP p1 c a) nm2 d2 p2 true s2 → Q .none { s with heap := h', toks := tk' }) :
    wpAny (model PR w) (AX dp un fr gd) (call (.ref 154) [.ref da, .str nm1 tn, .int c tc, .int c td, v]) Q E s := by
  obtain ⟨dd, DF, MP, PP, WD, u1, u2, u3, u4, dk, mk, r1, r2, Dt, hMP, hDM, hdM, hml, hv1, hv2, M1, M2, hsep, hsep2, hemp, hmk2, hs1, hs2, hscx⟩ := D
  have none_of : ∀ {x : Addr}, P x → h₀.get? x = none := fun {x} hx => hP0 x hx
  obtain ⟨oM, hoM, hdMM⟩ := Heap.dictOf_iff.mp Dt.maps
  obtain ⟨esM, epM, hM1, hM2, _⟩ := id hdMM
  obtain ⟨oF, hoF, hdFF⟩ := Heap.dictOf_iff.mp Dt.dfl
  have plain : ∀ {h' : Heap} {x : Addr} {o : Obj} {es : Array DictEntry} {k : Nat}, KeepBut [x] s.heap h' → s.heap.get? x = some o → o.data = .dict es k → P x → (∀ b o, s.heap.get? b = some o → (¬ P b ∨ ∀ es k, o.data ≠ .dict es k) → h'.get? b = some o) := fun {h' x o es k} hk hx ho hnx b ob e hb => hk _ _ e (by
    simp only [List.mem_cons, List.not_mem_nil, or_false]
    rintro rfl
    rcases hb with hb | hb
    · exact absurd hnx hb
    · rw [hx] at e; cases e
      exact hb _ _ ho)
  have vkeep : ∀ {h' : Heap} {x : Addr} {o : Obj} {es : Array DictEntry} {k : Nat} {u : Value} {b : AV}, KeepBut [x] s.heap h' → s.heap.get? x = some o → o.data = .dict es k → VIs s.heap u b → VIs h' u b := fun {h' x o es k u b} hk hx ho hu => (SeqKeep.of hk (by
    intro d hd o' xs n e hs
    obtain rfl : d = x := by simpa using hd
    rw [hx] at e; cases e
    rw [ho] at hs; cases hs)).vis hu
  have danot : ∀ {x : Addr} {o : Obj} {es : Array DictEntry} {k : Nat}, s.heap.get? x = some o → o.data = .dict es k → da ≠ x := fun {x o es k} hx ho e => by
    have := Dt.inst.at_
    rw [e, hx] at this; cases this
    exact absurd ho (by simp)
  have ddk : ∀ {h' : Heap} {x : Addr}, KeepBut [x] s.heap h' → dd ≠ x → (∀ dd' o, s.heap.get? da = some (instObj 171 dd') → s.heap.get? dd' = some o → h'.get? dd' = some o) := fun {h' x} hk hx dd' o e e2 => by
    rw [Dt.inst.at_] at e
    obtain rfl : dd = dd' := by simpa using e
    exact hk _ _ e2 (by simpa using hx)
  rcases M1 with ⟨rfl, m2, rfl⟩ | ⟨ra, rd, S, V, sv, vv, t1, t2, t3, dv, rfl, m2, R, hra, hrd⟩
  · refine data_put_new_ok kp X T hdp hun Dt m2 (by omega) (none_of hMP) hDM hdM hv1 hc hc2 hv (fun ra rd S' V' sv' vv' t1 t2' t3' dv h' tk' hk hD' hfa hfd R' => ?_)
    have hmk' : (stored mk nm1 (.ref ra)).length ≤ mk.length + 1 := stored_length_le _ _ _
    have hne2 : r2 ≠ some MP := fun e => (hsep2 MP (.inr e)).2.2 rfl
    have rdne : ∀ {x : Addr} {o : Obj}, s.heap.get? x = some o → x ≠ rd := fun {x o} e q => by rw [q, hfd] at e; cases e
    have hM2' : MapSt w P h' (stored mk nm1 (.ref ra)) nm2 d2 p2 r2 := by
      rcases M2.keepBut hk hoM hM2 hne2 with ⟨a1, a2, a3⟩ | ⟨ra2, rd2, S2, V2, sv2, vv2, t12, t22, t32, dv2, b1, b2, b3⟩
      · exact .inl ⟨a1, by rw [valueAt_stored_ne _ _ (Ne.symm hnm)]; exact a2, a3⟩
      · exact .inr ⟨ra2, rd2, S2, V2, sv2, vv2, t12, t22, t32, dv2, b1, by rw [valueAt_stored_ne _ _ (Ne.symm hnm)]; exact b2, b3⟩
    have hr2 : ∀ x, r2 = some x → ∃ o, s.heap.get? x = some o := by
      rintro x rfl
      rcases M2 with ⟨a1, _⟩ | ⟨ra2, rd2, S2, V2, sv2, vv2, t12, t22, t32, dv2, b1, b2, b3, _⟩
      · cases a1
      · cases b1; exact ⟨_, b3.inst.dict⟩
    refine ret h' tk' (plain hk hoM hM2 hMP) (ddk hk hdM) ⟨dd, DF, MP, PP, WD, u1, u2, u3, u4, dk, stored mk nm1 (.ref ra), some rd, r2, ⟨⟨hk _ _ Dt.inst.at_ (by simpa using danot hoM hM2), Dt.inst.cls, Dt.inst.no, hk _ _ Dt.inst.dict (by simpa using hdM)⟩, Dt.dfl.at fun o e => hk _ o e (by simpa using hDM), hD', Dt.ldf, Dt.lmp⟩,
      hMP, hDM, hdM, ?_, vkeep hk hoM hM2 hv1, vkeep hk hoM hM2 hv2, .inr ⟨ra, rd, S', V', sv', vv', t1, t2', t3', dv, rfl, valueAt_stored_self _ _ _, R', hPn _ hfa, hPn _ hfd⟩, hM2', ?_, ?_, (fun h => by cases h), ?_, (fun _ h => by cases h), hs2, hscx⟩
    · rw [if_pos rfl] at hmk2; split at hmk2 <;> omega
    · rintro x hx hx2
      cases hx
      obtain ⟨o, ho⟩ := hr2 _ hx2
      exact rdne ho rfl
    · rintro x (hx | hx)
      · cases hx
        exact ⟨rdne Dt.inst.dict, rdne hoF, rdne hoM⟩
      · exact hsep2 x (.inr hx)
    · rw [if_pos rfl] at hmk2
      rw [if_neg (by simp)]
      omega
  · have hs3 := hsep2 rd (.inl rfl)
    refine data_put_old_ok kp X T hdp hun Dt m2 R gp hl hc hc2 hv (none_of hra) (none_of hrd) hs3.1 hs3.2.1 hs3.2.2 (fun S' V' sv' vv' t2' t3' h' tk' hk _ _ R' => ?_)
    have hrdo := R.inst.dict
    refine ret h' tk' (plain hk hrdo rfl hrd) (ddk hk hs3.1) ⟨dd, DF, MP, PP, WD, u1, u2, u3, u4, dk, mk, some rd, r2, ⟨⟨hk _ _ Dt.inst.at_ (by simpa using danot hrdo rfl), Dt.inst.cls, Dt.inst.no, hk _ _ Dt.inst.dict (by simpa using hs3.1)⟩, Dt.dfl.at fun o e => hk _ o e (by simpa using hs3.2.1), Dt.maps.at fun o e => hk _ o e (by simpa using hs3.2.2), Dt.ldf, Dt.lmp⟩,
      hMP, hDM, hdM, hml, vkeep hk hrdo rfl hv1, vkeep hk hrdo rfl hv2, .inr ⟨ra, rd, S', V', sv', vv', t1, t2', t3', dv, rfl, m2, R', hra, hrd⟩, M2.keepBut hk hrdo rfl (hsep rd rfl), hsep, hsep2, hemp, hmk2, (fun _ h => by cases h), hs2, hscx⟩
end
end

section
section
variable {prog : Program} {w : World} {A : Around} {E : Value → Shared → Prop} {s : Shared} {K : Frag} {C : Addr} {h₀ : Heap} {L : Addr} {m : Str → Option Value} {news : List (Addr × Obj)} {Q : Value → Shared → Prop}
theorem call_clsK {pos : List Value} {kw : List (Str × Value)} {fI : Addr} (F : Fr h₀ L s.heap m) (X₀ : K.In h₀) (N : News h₀ L s.heap news) (hm : makesIn K C = true) (hi : findIn K (.ref C) "__init__" = some (some (.ref fI))) (hf : isFn K (.ref fI) = true)
    (h : ∀ x dx h', Fr h₀ L h' m → News h₀ L h' ((x, instObj C dx) :: (dx, dictOf [] 0) :: news) → (∀ p ∈ news, p.1 < dx) → dx < x → (∀ b o, s.heap.get? b = some o → h'.get? b = some o) → s.heap.get? x = none → s.heap.get? dx = none →
      codeAny (model prog w) (A.under (.builtin "type.__call__" ⟨.ref C :: pos, kw⟩)) (.call (.ref fI) ⟨.ref x :: pos, kw⟩) (InitBack x fun r s' => match r with | .ok (.ret v) => Q v s' | .ok _ => False | .error e => E e s') { s with heap := h' }) :
    wpAny (model prog w) A (call (.ref C) pos kw) Q E s := by
  refine wpAny_call ?_
  obtain ⟨hh, g, d, t, os⟩ := s
  refine make_core (makes_of (X₀.keeps F.keep) hm) (looks_findIn (X₀.keeps F.keep) hi) (fun self => bind_fn (X₀.keeps F.keep) self (beq_iff_eq.mp hf)) (.inl rfl) (h _ hh.objs.size _ ((F.push _).push _) ?_ (fun p hp => Heap.lt_size (N p hp).1) (Nat.lt_succ_self _)
    (fun b o e => Heap.get?_push_of_some _ (Heap.get?_push_of_some _ e)) (Heap.get?_none_of_le (Nat.le_succ _)) (Heap.get?_none_of_le (Nat.le_refl _)))
  have := (N.push F emptyDict).push (F.push _) (instObj C hh.objs.size)
  rwa [Heap.size_push] at this
end

section
variable {w : World} {mg mb : Str → Option Value} {mean : ExcName → Option Value} {loose : List Str} {h₀ : Heap} {dp un : Nat} {fr : Option (List Env)} {gd : Option (List Code)} {s : Shared} {Q : Value → Shared → Prop} {E : Value → Shared → Prop}
variable {g : Heap} {L : Addr} {m : Str → Option Value} {news : List (Addr × Obj)}
theorem data_new2_ok (F : Fr g L s.heap m) (N : News g L s.heap news) (X : (hd.heap_1 w.params).In g) (T : Top hVw loose mean mg mb g) (hdp : dp ≤ 880) (hun : un ≤ 8800)
    (ret : ∀ da dd DF MP PP WD u1 u2 u3 u4 oDF oMP dk h' tk', Fr g L h' m → News g L h' ((da, instObj 171 dd) :: (dd, dictOf (dataEs w u1 u2 u3 u4 DF MP PP WD) 4) :: (DF, oDF) :: (MP, oMP) :: news) →
      oDF.IsDictOf (PySem.strKind PR w) dk → oMP.IsDictOf (PySem.strKind PR w) [] → valueAt dk (Str.ofString "scx") = some .none → (∃ y t, valueAt dk (Str.ofString "sc") = some (.str y t)) → (DF == sysModules) = false → (MP == sysModules) = false → (∀ b o, s.heap.get? b = some o → h'.get? b = some o) → (∀ y ∈ [da, dd, DF, MP], s.heap.get? y = none) → (DF ≠ MP ∧ dd ≠ MP) → Q (.ref da) { s with heap := h', toks := tk' }) :
    wpAny (model PR w) (AX dp un fr gd) (call (.ref 171) []) Q E s := by
  revert X; k_fill; intro X
  refine call_clsK (fI := 147) F X N (by k_is) (by k_is) (by k_is) (fun x dx h2 F1 N1 l1 l2 kp2 fx fdx => ?_)
  have hxd : x ≠ dx := Ne.symm (Nat.ne_of_lt l2)
  have hdx : dx ≠ x := Nat.ne_of_lt l2
  refine' code_fn (news := [(x, instObj 171 dx), (dx, dictOf [] 0)]) (binds := [(Str.ofString "self", .ref x)]) ?k1 ?k2 ?k3 ?k4 ?k6 ?k7 ?k8 ?k9 ?kB ?_ ?c2 ?c3 ?c4 ?c5
  case k1 => exact F1.keep
  case k2 => exact X
  case k3 => exact T
  case k4 => (intro q hq; simp only [List.mem_cons, List.not_mem_nil, or_false] at hq; rcases hq with rfl | rfl; exact ⟨(N1 _ (.head _)).1, (N1 _ (.head _)).2.2⟩; exact ⟨(N1 _ (.tail _ (.head _))).1, (N1 _ (.tail _ (.head _))).2.2⟩)
  case k6 => k_is
  case k7 => k_is
  case k8 => (simp only [depth_under_make, recursionLimit] at *; (try dsimp only); omega)
  case k9 => first | exact BindsTo.of_eq rfl | exact binds_K (X.keeps F1.keep) rfl (by k_is) rfl rfl rfl
  case kB => exact locs rfl
  case c2 => exact rfl
  case c3 => exact rfl
  case c4 => exact rfl
  case c5 => decide
  intro g2 L' h₁ hg hkg hgs F2 N2 X' T'
  dsimp only
  k_fold
  k_steps
  show wpAny _ _ _ _ _ _
  refine data_defaults_ok (s := { s with heap := h₁, toks := _ }) F2.keep X' T' (by (simp only [depth_under_make]; try dsimp only); omega) (by (simp only [units_deeper, units_under_make]; try dsimp only); omega) (fun DF oDF dk h3 tk3 hk hf hlo ho hdd hscx hsc => ?_)
  have F3 := Fr.behind0 F2 hk
  have N3 := News.made F2 (News.behind0 N2 hk) ho hf
  have hDx : DF ≠ x := fun e => by rw [e, (N2 _ (.head _)).1] at hf; cases hf
  have hDdx : DF ≠ dx := fun e => by rw [e, (N2 _ (.tail _ (.head _))).1] at hf; cases hf
  clear F2 N2
  k_steps
  refine ⟨rfl, ?_⟩
  rename_i MP _ oMP loM hsM _ _ _ _ _ PP _ _ _ _ _ _ _ _ _ WD _ _ _ _ _ _ _ _ h5 F5 N5
  have hLn : L ∉ [x, dx] := by
    simp only [List.mem_cons, List.not_mem_nil, or_false, not_or]
    exact ⟨Ne.symm (N1 _ (.head _)).2.1, Ne.symm (N1 _ (.tail _ (.head _))).2.1⟩
  have hds : ∀ d ∈ [x, dx], g.get? d = none := by
    intro d hd
    simp only [List.mem_cons, List.not_mem_nil, or_false] at hd
    rcases hd with rfl | rfl
    · exact (N1 _ (.head _)).2.2
    · exact (N1 _ (.tail _ (.head _))).2.2
  have N6 := News.lift F1 hkg F5 N5 hLn hds
  have N7 := News.lift2 (news := news) (fun p hp => N1 p (.tail _ (.tail _ hp))) hkg F5 (fun p hp => by
    simp only [List.map_cons, List.map_nil, List.mem_cons, List.not_mem_nil, or_false, not_or]
    exact ⟨Nat.ne_of_lt (Nat.lt_trans (l1 p hp) l2), Nat.ne_of_lt (l1 p hp)⟩)
  have hnx : ∀ b o, s.heap.get? b = some o → b ∉ List.map (·.1) [(x, instObj 171 dx), (dx, dictOf [] 0)] := fun b o e => by
    simp only [List.map_cons, List.map_nil, List.mem_cons, List.not_mem_nil, or_false, not_or]
    constructor
    · rintro rfl; rw [fx] at e; cases e
    · rintro rfl; rw [fdx] at e; cases e
  have frs : ∀ {b : Addr}, g2.get? b = none → s.heap.get? b = none := fun {b} hb => by
    cases q : s.heap.get? b with
    | none => rfl
    | some o' => exact absurd (hb.symm.trans (hkg _ _ (kp2 _ _ q) (hnx _ _ q))) (by simp)
  refine ret x dx DF MP PP WD _ _ _ _ oDF oMP dk h5 _ (Fr.lift F1 hkg F5 hLn hds) (News.six N6 N7) hdd hsM hscx hsc hlo loM (fun b o e => F5.keep _ _ (hkg _ _ (kp2 b o e) (hnx b o e))) ?_ ?_
  · intro y hy
    simp only [List.mem_cons, List.not_mem_nil, or_false] at hy
    rcases hy with rfl | rfl | rfl | rfl
    · exact fx
    · exact fdx
    · exact frs (N5 (_, oDF) (by k_mem)).2.2
    · exact frs (N5 (_, oMP) (by k_mem)).2.2
  · have hl := ‹DF < MP ∧ x < MP ∧ dx < MP›
    exact ⟨Nat.ne_of_lt hl.1, Nat.ne_of_lt hl.2.2⟩
end

theorem DSt.init {w : World} {P : Addr → Prop} {h : Heap} {da dd DF MP PP WD : Addr} {u1 u2 u3 u4 : Tok} {dk : List (Str × Value)} {y : Str} {t : Tok} (Dt : DataAt w h da dd DF MP PP WD u1 u2 u3 u4 dk []) (hsc : valueAt dk (Str.ofString "sc") = some (.str y t)) (hscx : valueAt dk (Str.ofString "scx") = some .none)
    (hP : P MP) (h1 : DF ≠ MP) (h2 : dd ≠ MP) (hP1 : P dd) (hP2 : P DF) : DSt w P h da (Str.ofString "sc") (.str y) [(0, .str y)] (Str.ofString "scx") .none [(0, .none)] false false :=
  ⟨dd, DF, MP, PP, WD, u1, u2, u3, u4, dk, [], none, none, Dt, hP, h1, h2, by simp, ⟨t, by rw [hsc]; rfl⟩, (by rw [hscx]; rfl : (valueAt dk (Str.ofString "scx")).getD .none = .none), .inl ⟨rfl, rfl, rfl⟩, .inl ⟨rfl, rfl, rfl⟩, (fun _ h => by cases h), (fun _ h => by rcases h with h | h <;> cases h), fun _ _ => rfl, by simp, (fun h => by cases h), (fun h => by cases h), hscx, hP1, hP2⟩
end

section
/-- an object that a snapshot takes: no cell, no iterator of a list, a dict only at P -/
def SnapOk (P : Addr → Prop) (a : Addr) (o : Obj) : Prop := (∀ v, o.data ≠ .cell v) ∧ (∀ vs, o.data ≠ .fields vs) ∧ (P a ∨ ∀ es k, o.data ≠ .dict es k)
def KeepS (P : Addr → Prop) (h h' : Heap) : Prop := ∀ b o, h.get? b = some o → SnapOk P b o → h'.get? b = some o
theorem SnapOk.seq {P : Addr → Prop} {a : Addr} {o : Obj} {xs : Array Value} {n : Nat} (h : o.data = .seq xs n) : SnapOk P a o := ⟨by rw [h]; simp, by rw [h]; simp, .inr (by rw [h]; simp)⟩
theorem SnapOk.dict {P : Addr → Prop} {a : Addr} {o : Obj} {es : Array DictEntry} {k : Nat} (h : o.data = .dict es k) (hP : P a) : SnapOk P a o := ⟨by rw [h]; simp, by rw [h]; simp, .inl hP⟩
theorem SnapOk.inst {P : Addr → Prop} {a C d : Addr} : SnapOk P a (instObj C d) := ⟨by simp, by simp, .inr (by simp)⟩
theorem KeepS.list {P : Addr → Prop} {h h' : Heap} (k : KeepS P h h') {l : Addr} {vs : Array Value} (x : h.IsList l vs) : h'.IsList l vs := by
  obtain ⟨o, e, c, n, d⟩ := x
  exact ⟨o, k _ _ e (.seq d), c, n, d⟩
theorem KeepS.tup {P : Addr → Prop} {h h' : Heap} (k : KeepS P h h') {l : Addr} {vs : Array Value} (x : IsTup h l vs) : IsTup h' l vs := by
  obtain ⟨o, e, c, n, d⟩ := x
  exact ⟨o, k _ _ e (.seq d), c, n, d⟩
theorem KeepS.dictOf {P : Addr → Prop} {h h' : Heap} (k : KeepS P h h') {prog : Program} {w : World} {K : Type} [DecidableEq K] {knd : KeyKind prog w K} {d : Addr} {kvs : List (K × Value)} (x : h.DictOf knd d kvs) (hP : P d) : h'.DictOf knd d kvs := by
  obtain ⟨o, es, ep, ho, r⟩ := x
  exact ⟨o, es, ep, k _ _ ho (.dict r.2.1 hP), r⟩
theorem KeepS.vis {P : Addr → Prop} {h h' : Heap} (k : KeepS P h h') {v : Value} {a : AV} (x : VIs h v a) : VIs h' v a := by
  cases a with
  | none => exact x
  | str _ => exact x
  | tup ss =>
    obtain ⟨a, vs, e, t, r⟩ := x
    exact ⟨a, vs, e, k.tup t, r⟩
theorem KeepS.vare {P : Addr → Prop} {h h' : Heap} (k : KeepS P h h') {vs : List Value} {as : List AV} (x : VAre h vs as) : VAre h' vs as := by
  induction x with
  | nil => exact .nil
  | cons a _ ih => exact .cons (k.vis a) ih
theorem MapSt.keepS {w : World} {P : Addr → Prop} {h h' : Heap} {mk : List (Str × Value)} {nm : Str} {d0 : AV} {p : List (Int × AV)} {r : Option Addr} (M : MapSt w P h mk nm d0 p r) (k : KeepS P h h') : MapSt w P h' mk nm d0 p r := by
  rcases M with M | ⟨ra, rd, S, V, sv, vv, t1, t2, t3, dv, rfl, h2, R, h4, h5⟩
  · exact .inl M
  · exact .inr ⟨ra, rd, S, V, sv, vv, t1, t2, t3, dv, rfl, h2, ⟨⟨k _ _ R.inst.at_ .inst, R.inst.cls, R.inst.no, k _ _ R.inst.dict (.dict rfl h5)⟩, k.list R.starts, R.num, k.list R.values, k.vare R.vals, R.len⟩, h4, h5⟩
theorem DSt.keepS {w : World} {P : Addr → Prop} {h h' : Heap} {da : Addr} {nm1 nm2 : Str} {d1 d2 : AV} {p1 p2 : List (Int × AV)} {s1 s2 : Bool} (D : DSt w P h da nm1 d1 p1 nm2 d2 p2 s1 s2) (k : KeepS P h h') : DSt w P h' da nm1 d1 p1 nm2 d2 p2 s1 s2 := by
  obtain ⟨dd, DF, MP, PP, WD, u1, u2, u3, u4, dk, mk, r1, r2, a, b, c, d, e, f, g, i, j, m, l, n, o, q1, q2, q3, q4, q5⟩ := D
  exact ⟨dd, DF, MP, PP, WD, u1, u2, u3, u4, dk, mk, r1, r2, ⟨⟨k _ _ a.inst.at_ .inst, a.inst.cls, a.inst.no, k _ _ a.inst.dict (.dict rfl q4)⟩, k.dictOf a.dfl q5, k.dictOf a.maps b, a.ldf, a.lmp⟩, b, c, d, e, k.vis f, k.vis g, i.keepS k, j.keepS k, m, l, n, o, q1, q2, q3, q4, q5⟩

theorem snap_ex (g h : Heap) (P : Addr → Prop) : ∃ dl : List (Addr × Obj), ∀ a o, (a, o) ∈ dl ↔ (h.get? a = some o ∧ g.get? a = none ∧ SnapOk P a o) := by
  classical
  refine ⟨(List.range h.objs.size).filterMap fun a => match h.get? a with
    | some o => if g.get? a = none ∧ SnapOk P a o then some (a, o) else none
    | none => none, fun a o => ?_⟩
  rw [List.mem_filterMap]
  constructor
  · rintro ⟨b, _, hb⟩
    cases q : h.get? b with
    | none => rw [q] at hb; cases hb
    | some o' =>
      rw [q] at hb
      dsimp only at hb
      split at hb
      · rename_i hc
        cases hb
        exact ⟨q, hc⟩
      · cases hb
  · rintro ⟨e, hc⟩
    refine ⟨a, List.mem_range.mpr (Heap.lt_size e), ?_⟩
    rw [e]
    dsimp only
    rw [if_pos hc]

/-- the data, told by a ledger -/
def DL (w : World) (g : Heap) (P : Addr → Prop) (da : Addr) (d0 : AV) (p q : List (Int × AV)) (s1 s2 : Bool) (dl : List (Addr × Obj)) : Prop :=
  (∀ x ∈ dl, SnapOk P x.1 x.2) ∧ ∀ h, (∀ b o, g.get? b = some o → h.get? b = some o) → (∀ x ∈ dl, h.get? x.1 = some x.2) → DSt w P h da (Str.ofString "sc") d0 p (Str.ofString "scx") .none q s1 s2
theorem DL.make {w : World} {g h : Heap} {P : Addr → Prop} {da L : Addr} {d0 : AV} {p q : List (Int × AV)} {s1 s2 : Bool} {m : Str → Option Value} (F : Fr g L h m) (hL : ¬ P L) (D : DSt w P h da (Str.ofString "sc") d0 p (Str.ofString "scx") .none q s1 s2) :
    ∃ dl, News g L h dl ∧ DL w g P da d0 p q s1 s2 dl := by
  obtain ⟨dl, hdl⟩ := snap_ex g h P
  refine ⟨dl, fun x hx => ?_, fun x hx => ((hdl x.1 x.2).mp hx).2.2, fun h2 kg2 hk => D.keepS fun b o e hs => ?_⟩
  · obtain ⟨e, hn, hs⟩ := (hdl x.1 x.2).mp hx
    refine ⟨e, ?_, hn⟩
    intro e2
    obtain ⟨oL, es, ep, hoL, hdL, _⟩ := F.ns
    rw [e2, hoL] at e
    cases e
    rcases hs.2.2 with h3 | h3
    · exact hL (e2 ▸ h3)
    · exact h3 _ _ hdL
  · cases q : g.get? b with
    | none => exact hk (b, o) ((hdl b o).mpr ⟨e, q, hs⟩)
    | some o' =>
      have := F.keep _ _ q
      rw [e] at this
      obtain rfl : o = o' := Option.some.inj this
      exact kg2 _ _ q

/-- what may change: all that is neither in the base nor told in ex -/
def PX (g : Heap) (ex : List Addr) (x : Addr) : Prop := g.get? x = none ∧ x ∉ ex

section
variable {w : World} {mg mb : Str → Option Value} {mean : ExcName → Option Value} {loose : List Str} {h₀ : Heap} {dp un : Nat} {fr : Option (List Env)} {gd : Option (List Code)} {s : Shared} {Q : Value → Shared → Prop} {E : Value → Shared → Prop}
variable {g : Heap} {L : Addr} {m : Str → Option Value} {fx dl : List (Addr × Obj)} {ex : List Addr}
theorem putL_core {da dd : Addr} {od : Obj} {nm1 nm2 : Str} {d1 d2 a : AV} {p1 p2 : List (Int × AV)} {s1 s2 : Bool} {tn : Tok} {v : Value} {c : Int} {tc td : Tok}
    (F : Fr g L s.heap m) (N : News g L s.heap ((da, instObj 171 dd) :: (dd, od) :: (fx ++ dl))) (hL : L ∈ ex) (hfx : ∀ p ∈ fx, p.1 ∈ ex ∨ ∀ es k, p.2.data ≠ .dict es k) (hex : ∀ x ∈ ex, x = L ∨ ∃ p ∈ fx, p.1 = x)
    (X : (hd.heap_1 w.params).In g) (T : Top hVw loose mean mg mb g) (hdp : dp ≤ 870) (hun : un ≤ 8700)
    (D : DSt w (PX g ex) s.heap da nm1 d1 p1 nm2 d2 p2 s1 s2) (hnm : nm1 ≠ nm2) (gp : Good p1) (hl : p1.length ≤ 900) (hc : 1 ≤ c) (hc2 : c < 1000) (hv : VIs s.heap v a)
    (ret : ∀ h' tk', Fr g L h' m → News g L h' ((da, instObj 171 dd) :: (dd, od) :: fx) → DSt w (PX g ex) h' da nm1 d1 (putP p1 c a) nm2 d2 p2 true s2 → Q .none { s with heap := h', toks := tk' }) :
    wpAny (model PR w) (AX dp un fr gd) (call (.ref 154) [.ref da, .str nm1 tn, .int c tc, .int c td, v]) Q E s := by
  obtain ⟨oL, es, ep, hoL, hrL⟩ := id F.ns
  refine data_put_ok (h₀ := g) F.keep X T hdp hun D hnm (fun x hx => hx.1) (fun x hx => ⟨?_, fun hm => ?_⟩) gp hl hc hc2 hv (fun h' tk' hk hkd D' => ?_)
  · cases q : g.get? x with
    | none => rfl
    | some o' => exact absurd (hx.symm.trans (F.keep _ _ q)) (by simp)
  · rcases hex x hm with rfl | ⟨p, hp, rfl⟩
    · rw [hoL] at hx; cases hx
    · have := (N p (.tail _ (.tail _ (List.mem_append_left _ hp)))).1
      rw [hx] at this; cases this
  · refine ret h' tk' ⟨⟨oL, es, ep, hk _ _ hoL (.inl fun h => h.2 hL), hrL⟩, fun b o e => hk _ _ (F.keep _ _ e) (.inl fun h => ?_), F.above⟩ (fun p hp => ?_) D'
    · rw [h.1] at e; cases e
    · rcases List.mem_cons.mp hp with rfl | hp
      · have h1 := N _ (.head _)
        exact ⟨hk _ _ h1.1 (.inr (by simp)), h1.2⟩
      rcases List.mem_cons.mp hp with rfl | hp
      · have h1 := N _ (.tail _ (.head _))
        exact ⟨hkd dd od (N _ (.head _)).1 h1.1, h1.2⟩
      · have h1 := N p (.tail _ (.tail _ (List.mem_append_left _ hp)))
        refine ⟨hk _ _ h1.1 ((hfx p hp).imp (fun h2 h3 => h3.2 h2) fun h => h), h1.2⟩

theorem put_sc_L {da dd : Addr} {od : Obj} {d0 a : AV} {p q : List (Int × AV)} {s1 s2 : Bool} {tn : Tok} {v : Value} {c : Int} {tc td : Tok}
    (F : Fr g L s.heap m) (N : News g L s.heap ((da, instObj 171 dd) :: (dd, od) :: (fx ++ dl))) (hL : L ∈ ex) (hfx : ∀ p ∈ fx, p.1 ∈ ex ∨ ∀ es k, p.2.data ≠ .dict es k) (hex : ∀ x ∈ ex, x = L ∨ ∃ p ∈ fx, p.1 = x)
    (X : (hd.heap_1 w.params).In g) (T : Top hVw loose mean mg mb g) (hdp : dp ≤ 870) (hun : un ≤ 8700)
    (D : DL w g (PX g ex) da d0 p q s1 s2 dl) (gp : Good p) (hl : p.length ≤ 900) (hc : 1 ≤ c) (hc2 : c < 1000) (hv : VIs s.heap v a)
    (ret : ∀ dl' h' tk', Fr g L h' m → News g L h' ((da, instObj 171 dd) :: (dd, od) :: (fx ++ dl')) → DL w g (PX g ex) da d0 (putP p c a) q true s2 dl' → Q .none { s with heap := h', toks := tk' }) :
    wpAny (model PR w) (AX dp un fr gd) (call (.ref 154) [.ref da, .str (Str.ofString "sc") tn, .int c tc, .int c td, v]) Q E s := by
  refine putL_core F N hL hfx hex X T hdp hun (D.2 _ F.keep (fun x hx => (N x (.tail _ (.tail _ (List.mem_append_right _ hx)))).1)) (by decide) gp hl hc hc2 hv (fun h' tk' F' N' D' => ?_)
  obtain ⟨dl', N2, D2⟩ := DL.make F' (fun h => h.2 hL) D'
  refine ret dl' h' tk' F' (fun p hp => ?_) D2
  rw [← List.cons_append, ← List.cons_append] at hp
  exact (List.mem_append.mp hp).elim (N' p) (N2 p)
theorem put_scx_L {da dd : Addr} {od : Obj} {d0 a : AV} {p q : List (Int × AV)} {s1 s2 : Bool} {tn : Tok} {v : Value} {c : Int} {tc td : Tok}
    (F : Fr g L s.heap m) (N : News g L s.heap ((da, instObj 171 dd) :: (dd, od) :: (fx ++ dl))) (hL : L ∈ ex) (hfx : ∀ p ∈ fx, p.1 ∈ ex ∨ ∀ es k, p.2.data ≠ .dict es k) (hex : ∀ x ∈ ex, x = L ∨ ∃ p ∈ fx, p.1 = x)
    (X : (hd.heap_1 w.params).In g) (T : Top hVw loose mean mg mb g) (hdp : dp ≤ 870) (hun : un ≤ 8700)
    (D : DL w g (PX g ex) da d0 p q s1 s2 dl) (gp : Good q) (hl : q.length ≤ 900) (hc : 1 ≤ c) (hc2 : c < 1000) (hv : VIs s.heap v a)
    (ret : ∀ dl' h' tk', Fr g L h' m → News g L h' ((da, instObj 171 dd) :: (dd, od) :: (fx ++ dl')) → DL w g (PX g ex) da d0 p (putP q c a) s1 true dl' → Q .none { s with heap := h', toks := tk' }) :
    wpAny (model PR w) (AX dp un fr gd) (call (.ref 154) [.ref da, .str (Str.ofString "scx") tn, .int c tc, .int c td, v]) Q E s := by
  refine putL_core F N hL hfx hex X T hdp hun (DSt.swap (D.2 _ F.keep (fun x hx => (N x (.tail _ (.tail _ (List.mem_append_right _ hx)))).1))) (by decide) gp hl hc hc2 hv (fun h' tk' F' N' D' => ?_)
  obtain ⟨dl', N2, D2⟩ := DL.make F' (fun h => h.2 hL) (DSt.swap D')
  refine ret dl' h' tk' F' (fun p hp => ?_) D2
  rw [← List.cons_append, ← List.cons_append] at hp
  exact (List.mem_append.mp hp).elim (N' p) (N2 p)

/-- a result that is None, or a new tuple of the ledger ol -/
def OV (v : Value) (r : Option (List Str)) (ol : List (Addr × Obj)) : Prop := match r with
  | none => v = .none ∧ ol = []
  | some ss => ss.length ≤ 35 ∧ ∃ a vs, v = .ref a ∧ ol = [(a, tupOf (List.toArray vs))] ∧ StrsAre vs ss
theorem OV.is {v : Value} {r : Option (List Str)} {ol : List (Addr × Obj)} {h : Heap} (x : OV v r ol) (hk : ∀ p ∈ ol, h.get? p.1 = some p.2) : OIs h v r := by
  cases r with
  | none => exact x.1
  | some ss =>
    obtain ⟨_, a, vs, rfl, rfl, hS⟩ := x
    exact ⟨a, vs, rfl, ⟨_, hk _ (.head _), rfl, _, rfl⟩, hS⟩
theorem OV.tups {v : Value} {r : Option (List Str)} {ol : List (Addr × Obj)} (x : OV v r ol) : ∀ p ∈ ol, ∃ ws, p.2 = tupOf ws := by
  cases r with
  | none => rw [x.2]; exact fun _ h => nomatch h
  | some ss =>
    obtain ⟨_, a, vs, rfl, rfl, hS⟩ := x
    intro p hp
    rw [List.mem_singleton.mp hp]
    exact ⟨_, rfl⟩

theorem resolved_okO {da tx : Addr} {p q : List (Int × AV)} {W : Signs} {vs : List Value} {cs : List Int}
    (kp : ∀ b o, h₀.get? b = some o → s.heap.get? b = some o) (X : (hd.heap_1 w.params).In h₀) (T : Top hVw loose mean mg mb h₀) (hdp : dp ≤ 830) (hun : un ≤ 8300)
    (Dt : DataRep w h₀ da p q) (hW : SignsOk p q W cs) (hT : h₀.IsList tx (List.toArray vs)) (hI : IntsAre vs cs) (hlen : cs.length ≤ 1000)
    (ret : ∀ v r ol h' tk', KeepBut [] s.heap h' → (∀ p ∈ ol, h'.get? p.1 = some p.2 ∧ s.heap.get? p.1 = none) → OV v r ol → ResSpec W cs r → Q v { s with heap := h', toks := tk' }) :
    wpAny (model PR w) (AX dp un fr gd) (call (.ref 63) [.ref tx, .ref da]) Q E s := by
  refine resolved_ok kp X T hdp hun Dt hW hT hI hlen (fun h' tk' hk hR => ret _ none [] h' tk' hk (fun _ h => nomatch h) ⟨rfl, rfl⟩ hR) (fun a out l h' tk' hk ha ho hS hll hR => ret _ (some l) [(a, tupOf (List.toArray out))] h' tk' hk (fun p hp => ?_) ⟨hll, a, out, rfl, rfl, hS⟩ hR)
  rw [List.mem_singleton.mp hp]; exact ⟨ho, ha⟩
theorem law_resolved_okO {wa tx : Addr} {W : Signs} {ds : List Int} {vs : List Value} {cs : List Int}
    (kp : ∀ b o, h₀.get? b = some o → s.heap.get? b = some o) (X : (hd.heap_1 w.params).In h₀) (T : Top hVw loose mean mg mb h₀) (hdp : dp ≤ 890) (hun : un ≤ 8900)
    (R : WRep w h₀ wa W ds) (hQ : NoQ W ds) (hsub : ∀ c ∈ cs, c ∈ ds) (hW3 : ∀ c ∈ ds, (nmOf W c).length ≤ 3) (hT : h₀.IsList tx (List.toArray vs)) (hI : IntsAre vs cs) (hlen : cs.length ≤ 100)
    (ret : ∀ v r ol h' tk', KeepBut [] s.heap h' → (∀ p ∈ ol, h'.get? p.1 = some p.2 ∧ s.heap.get? p.1 = none) → OV v r ol → ResSpec W cs r → Q v { s with heap := h', toks := tk' }) :
    wpAny (model PR w) (AX dp un fr gd) (call (.ref 218) [.ref wa, .ref tx]) Q E s := by
  refine law_resolved_ok kp X T hdp hun R hQ hsub hW3 hT hI hlen (fun h' tk' hk hR => ret _ none [] h' tk' hk (fun _ h => nomatch h) ⟨rfl, rfl⟩ hR) (fun a out l h' tk' hk ha ho hS hll hR => ret _ (some l) [(a, tupOf (List.toArray out))] h' tk' hk (fun p hp => ?_) ⟨hll, a, out, rfl, rfl, hS⟩ hR)
  rw [List.mem_singleton.mp hp]; exact ⟨ho, ha⟩
end

section
variable {prog : Program} {w : World} {A : Around} {E : Value → Shared → Prop} {s : Shared} {h₀ : Heap} {m : Str → Option Value} {news : List (Addr × Obj)} {env : Env}
abbrev rIt (i n : Nat) : Obj := { cls := .type "range_iterator", dict := none, data := .fields #[rawInt (0 + (i : Nat) * 1), rawInt ((n : Int) - (i : Nat)), rawInt 1], slots := #[] }
theorem for_range {target : PySem.Expr} {body : List Stmt} {Q : Flow → Shared → Prop} {r : Addr} {b : Int} {t1 t2 t3 : Tok}
    (J : Nat → (Str → Option Value) → List (Addr × Obj) → Prop) (hh : A.handled = none)
    (F : Fr h₀ env.locals s.heap m) (N : News h₀ env.locals s.heap news) (hJ0 : J 0 m news) (hr : IsRange s.heap r 0 b 1 t1 t2 t3) (hb0 : 0 ≤ b) (hb : b ≤ 100)
    (turn : ∀ I i v it m₁ news₁ h tk, i < b.toNat → (∃ t, v = .int (i : Int) t) → it = rIt (i + 1) b.toNat → J i m₁ news₁ → (∀ p ∈ news₁, p.1 ≠ I) → Fr h₀ env.locals h m₁ → News h₀ env.locals h ((I, it) :: news₁) →
      wpAny (model prog w) A (assign target env v) (fun _ s' => wpAny (model prog w) A (execs body env) (TurnEnd Q (TurnK h₀ env.locals s I it (J (i + 1)))) (fun _ _ => False) s') (fun _ _ => False) { s with heap := h, toks := tk })
    (done : ∀ m₁ news₁ h tk, J b.toNat m₁ news₁ → Fr h₀ env.locals h m₁ → News h₀ env.locals h news₁ → Q .next { s with heap := h, toks := tk }) :
    wpAny (model prog w) A (pyIter (.ref r)) (fun it s₂ => codeAny (model prog w) A (.forLoop target it body [] env) (fun r s' => match r with | .ok f => Q f s' | .error e => cameBackBy (model prog w) A env E e s') s₂) E s := by
  have hsm : Builtin.Range.small 0 b 1 = true := by
    unfold Builtin.Range.small Builtin.Range.rangeFitsLong
    rw [range_size hb0]
    simp only [Bool.and_eq_true, decide_eq_true_eq, Bool.or_eq_true]
    refine ⟨⟨⟨⟨by decide, ?_⟩, by decide⟩, ?_⟩, .inr ?_⟩
    · omega
    · omega
    · rw [if_pos (by decide)]; simp only [Bool.and_eq_true, decide_eq_true_eq]; omega
  refine wpAny_pyIter_range hr hsm ?_
  have F' := F.push { cls := .type "range_iterator", data := .fields #[rawInt 0, rawInt (Builtin.Range.rangeSize 0 b 1), rawInt 1] }
  have N' : News h₀ env.locals (s.heap.push { cls := .type "range_iterator", data := .fields #[rawInt 0, rawInt (Builtin.Range.rangeSize 0 b 1), rawInt 1] }) news := fun p hp => ⟨Heap.get?_push_of_some _ (N p hp).1, (N p hp).2⟩
  refine forW (s := { s with heap := _ }) (fun i it => it = rIt i b.toNat) J (Walks.range (prog := prog) (w := w) hh s.heap.objs.size 0 1 b.toNat) F' N' hJ0 (next_is_new F) ?_ (fun p hp => Nat.ne_of_lt (Heap.lt_size (N p hp).1)) ?_
    ?_ ?_ ?_ ?_ (fun i v it m₁ news₁ h tk hi hP hOb hJ hnI F N => turn s.heap.objs.size i v it m₁ news₁ h tk hi ?_ hOb hJ hnI F N) done
  · obtain ⟨oL, _, _, hoL, _⟩ := F.ns
    exact Nat.ne_of_gt (Heap.lt_size hoL)
  · show IsRangeIter _ _ _ _ _
    rw [range_size hb0]; simpa using Heap.get?_push_size _ rfl
  · rintro i it v s Q E rfl e h
    exact let_go e rfl (by decide) h
  · intro i h hst
    exact ⟨_, rfl, hst⟩
  · rintro i it m₁ news₁ h rfl a _ _ _
    exact a
  · rintro i it m₁ news₁ h rfl a _ _ _
    exact a
  · obtain ⟨t, rfl⟩ := hP
    exact ⟨t, by simp⟩

end
end

section
theorem codes_pos : ∀ c ∈ lawCodes, 1 ≤ c ∧ c < 1000 := by decide
theorem codes_ne {i : Nat} {c0 c : Int} (hc : lawCodes[i]? = some c0) (h : c ∈ lawCodes.take i) : c ≠ c0 := by
  rintro rfl
  have hi : i < 10 := (List.getElem?_eq_some_iff.mp hc).1
  have hh : ∀ i < 10, ∀ e ∈ lawCodes.take i, lawCodes[i]? ≠ some e := by decide
  exact hh i hi c h hc
def PAt (p : List (Int × AV)) (W : Signs) (i : Nat) : Prop := ∀ c ∈ lawCodes.take i, den p c = .str (W c).1
def QAt (q : List (Int × AV)) (W : Signs) (i : Nat) : Prop := ∀ c ∈ lawCodes, den q c = if c ∈ lawCodes.take i ∧ (W c).2 ≠ [] then .tup (W c).2 else .none
theorem take_next {i : Nat} {c0 : Int} (hc : lawCodes[i]? = some c0) : lawCodes.take (i + 1) = lawCodes.take i ++ [c0] := by rw [List.take_add_one, hc]; rfl
theorem PAt.next {p : List (Int × AV)} {W : Signs} {i : Nat} {c0 : Int} (g : Good p) (hl : p.length ≤ 900) (hc : lawCodes[i]? = some c0) (h : PAt p W i) : PAt (putP p c0 (.str (W c0).1)) W (i + 1) := by
  intro c hcm
  have h0 := (codes_pos _ (List.mem_of_getElem? hc)).1
  have hcp := (codes_pos c (List.mem_of_mem_take hcm)).1
  rw [den_put g h0 hl (by omega)]
  split
  · rename_i e; rw [e]
  · rename_i e
    rw [take_next hc] at hcm
    rcases List.mem_append.mp hcm with hcm | hcm
    · exact h c hcm
    · exact absurd (List.mem_singleton.mp hcm) e
theorem QAt.zero {W : Signs} : QAt [(0, .none)] W 0 := by
  intro c hc
  have := (codes_pos c hc).1
  rw [if_neg (by simp)]
  unfold den cntLe
  simp [show (0 : Int) ≤ c by omega]
theorem QAt.next {q : List (Int × AV)} {W : Signs} {i : Nat} {c0 : Int} (g : Good q) (hl : q.length ≤ 900) (hc : lawCodes[i]? = some c0) (hn : (W c0).2 ≠ []) (h : QAt q W i) : QAt (putP q c0 (.tup (W c0).2)) W (i + 1) := by
  intro c hcm
  have h0 := (codes_pos _ (List.mem_of_getElem? hc)).1
  have hcp := (codes_pos c hcm).1
  rw [den_put g h0 hl (by omega), take_next hc]
  by_cases e : c = c0
  · subst e
    rw [if_pos rfl, if_pos ⟨by simp, hn⟩]
  · rw [if_neg e, h c hcm]
    have : (c ∈ lawCodes.take i ++ [c0] ∧ (W c).2 ≠ []) ↔ (c ∈ lawCodes.take i ∧ (W c).2 ≠ []) := by simp [e]
    simp only [this]
theorem QAt.skip {q : List (Int × AV)} {W : Signs} {i : Nat} {c0 : Int} (hc : lawCodes[i]? = some c0) (hn : (W c0).2 = []) (h : QAt q W i) : QAt q W (i + 1) := by
  intro c hcm
  rw [h c hcm, take_next hc]
  by_cases e : c = c0
  · subst e
    rw [if_neg (fun h => h.2 hn), if_neg (fun h => h.2 hn)]
  · have : (c ∈ lawCodes.take i ++ [c0] ∧ (W c).2 ≠ []) ↔ (c ∈ lawCodes.take i ∧ (W c).2 ≠ []) := by simp [e]
    simp only [this]
theorem signs_ok {p q : List (Int × AV)} {W : Signs} (hp : PAt p W 10) (hq : QAt q W 10) (h3 : ∀ c ∈ lawCodes, (W c).2.length ≤ 3) : SignsOk p q W lawCodes := by
  intro c hc
  refine ⟨by have := (codes_pos c hc).1; omega, hp c hc, ?_, by have := h3 c hc; omega⟩
  rw [hq c hc]
  by_cases e : (W c).2 = []
  · rw [if_neg (fun h => h.2 e), if_pos e]
  · rw [if_pos ⟨hc, e⟩, if_neg e]
theorem SignsOk.sub {p q : List (Int × AV)} {W : Signs} {cs ds : List Int} (h : SignsOk p q W ds) (hs : ∀ c ∈ cs, c ∈ ds) : SignsOk p q W cs := fun c hc => h c (hs c hc)
theorem nm_len {W : Signs} (h3 : ∀ c ∈ lawCodes, (W c).2.length ≤ 3) : ∀ c ∈ lawCodes, (nmOf W c).length ≤ 3 := by
  intro c hc
  unfold nmOf
  split
  · simp
  · exact h3 c hc
theorem good_one (a : AV) : Good [(0, a)] := ⟨by simp, ⟨a, [], rfl⟩, by simp⟩
/-- nothing is left out of what is due -/
theorem none_left {W : Signs} {cs ds : List Int} {l l' : List Str} (h : ResSpec W cs (some l)) (h' : ResSpec W ds (some l')) (e : ∀ c, c ∈ ds → c ∈ cs) : l.filter (passOf true l') = [] := by
  rw [List.filter_eq_nil_iff]
  intro y hy
  have := h.within h' e y hy
  simp [passOf, this]
end

section
theorem News.neFresh {h₀ h : Heap} {L a : Addr} {news : List (Addr × Obj)} {p : Addr × Obj} (N : News h₀ L h news) (hp : p ∈ news) (ha : h.get? a = none) : p.1 ≠ a := by
  intro e
  have := (N p hp).1
  rw [e, ha] at this; cases this
theorem News.rot4 {g h : Heap} {L : Addr} {a b c d : Addr × Obj} (N : News g L h [a, b, c, d]) : News g L h [d, a, b, c] := fun p hp => N p (by
  simp only [List.mem_cons, List.not_mem_nil, or_false] at hp ⊢
  rcases hp with rfl | rfl | rfl | rfl <;> simp)
theorem News.setKB {g h h' : Heap} {L D : Addr} {o o' : Obj} {news news' : List (Addr × Obj)} (N : News g L h news) (hd : (D, o) ∈ news) (hk : KeepBut [D] h h') (ho : h'.get? D = some o') (hs : ∀ p ∈ news', p = (D, o') ∨ (p ∈ news ∧ p.1 ≠ D)) : News g L h' news' := by
  intro p hp
  rcases hs p hp with rfl | ⟨h1, h2⟩
  · exact ⟨ho, (N _ hd).2⟩
  · exact ⟨hk _ _ (N p h1).1 (by simpa using h2), (N p h1).2⟩
theorem News.madeAll {g h h' : Heap} {L : Addr} {m : Str → Option Value} {l : List (Addr × Obj)} (F : Fr g L h m) (hs : ∀ p ∈ l, h'.get? p.1 = some p.2 ∧ h.get? p.1 = none) : News g L h' l := fun p hp =>
  News.made (news := []) F (fun _ h => absurd h (by simp)) (hs p hp).1 (hs p hp).2 p (.head _)

/-- the addresses that the data may not touch: the namespace and the ledger -/
def exOf (L : Addr) (fx : List (Addr × Obj)) : List Addr := L :: fx.map (·.1)
theorem ex_self {L : Addr} {fx : List (Addr × Obj)} : L ∈ exOf L fx := .head _
theorem ex_of {L : Addr} {fx : List (Addr × Obj)} {p : Addr × Obj} (hp : p ∈ fx) : p.1 ∈ exOf L fx := .tail _ (List.mem_map_of_mem hp)
theorem ex_in {L : Addr} {fx : List (Addr × Obj)} {x : Addr} (h : x ∈ exOf L fx) : x = L ∨ ∃ p ∈ fx, p.1 = x := by
  rcases List.mem_cons.mp h with h | h
  · exact .inl h
  · obtain ⟨p, hp, e⟩ := List.mem_map.mp h
    exact .inr ⟨p, hp, e⟩
theorem ex_fresh {g h : Heap} {L y : Addr} {m : Str → Option Value} {news : List (Addr × Obj)} (F : Fr g L h m) (N : News g L h news) (hy : h.get? y = none) : y ∉ exOf L news := by
  intro hm
  rcases ex_in hm with rfl | ⟨p, hp, rfl⟩
  · obtain ⟨oL, _, _, hoL, _⟩ := F.ns
    rw [hy] at hoL; cases hoL
  · rw [(N p hp).1] at hy; cases hy

theorem dl_start {w : World} {g h : Heap} {L : Addr} {m : Str → Option Value} {news fx : List (Addr × Obj)} {da dd DF MP PP WD : Addr} {u1 u2 u3 u4 : Tok} {oDF oMP : Obj} {dk : List (Str × Value)}
    (F : Fr g L h m) (N : News g L h news) (hn : ∀ y ∈ [da, dd, DF, MP], y ∉ exOf L fx) (hs : ∀ p ∈ [(da, instObj 171 dd), (dd, dictOf (dataEs w u1 u2 u3 u4 DF MP PP WD) 4), (DF, oDF), (MP, oMP)], p ∈ news)
    (hdDF : oDF.IsDictOf (PySem.strKind PR w) dk) (hdMP : oMP.IsDictOf (PySem.strKind PR w) []) (hscx : valueAt dk (Str.ofString "scx") = some .none) (hsc : ∃ y t, valueAt dk (Str.ofString "sc") = some (.str y t))
    (lDF : (DF == sysModules) = false) (lMP : (MP == sysModules) = false) (hne : DF ≠ MP ∧ dd ≠ MP) :
    ∃ d0 dl, News g L h dl ∧ DL w g (PX g (exOf L fx)) da d0 [(0, d0)] [(0, .none)] false false dl := by
  obtain ⟨y, t, hsc⟩ := hsc
  have a1 := N _ (hs _ (.head _))
  have a2 := N _ (hs _ (.tail _ (.head _)))
  have a3 := N _ (hs _ (.tail _ (.tail _ (.head _))))
  have a4 := N _ (hs _ (.tail _ (.tail _ (.tail _ (.head _)))))
  refine ⟨.str y, DL.make F (fun h => h.2 ex_self) (DSt.init (PP := PP) (WD := WD) (u1 := u1) (u2 := u2) (u3 := u3) (u4 := u4) ⟨⟨a1.1, rfl, rfl, a2.1⟩, Heap.dictOf_iff.mpr ⟨oDF, a3.1, hdDF⟩, Heap.dictOf_iff.mpr ⟨oMP, a4.1, hdMP⟩, lDF, lMP⟩ hsc hscx ⟨a4.2.2, hn _ (by simp)⟩ hne.1 hne.2 ⟨a2.2.2, hn _ (by simp)⟩ ⟨a3.2.2, hn _ (by simp)⟩)⟩
theorem ex_pack {g h : Heap} {L : Addr} {m : Str → Option Value} {news : List (Addr × Obj)} {l : List Addr} (F : Fr g L h m) (N : News g L h news) (hy : ∀ y ∈ l, h.get? y = none) : ∃ fx, fx = news ∧ ∀ y ∈ l, y ∉ exOf L fx := ⟨_, rfl, fun y h => ex_fresh F N (hy y h)⟩
theorem News.third {g h : Heap} {L : Addr} {a b c : Addr × Obj} {l : List (Addr × Obj)} (N : News g L h (a :: b :: c :: l)) : News g L h (b :: c :: a :: l) := fun p hp => N p (by
  simp only [List.mem_cons] at hp ⊢
  rcases hp with h | h | h | h <;> simp [h])
theorem fx_it {L I ax : Addr} {it : Obj} {i : Nat} {fx : List (Addr × Obj)} (h : ObL ax i it) : ∀ p ∈ (I, it) :: fx, p.1 ∈ exOf L fx ∨ ∀ es k, p.2.data ≠ .dict es k := by
  intro p hp
  rcases List.mem_cons.mp hp with rfl | hp
  · exact .inr fun es k => by rw [h.2]; simp
  · exact .inl (ex_of hp)
theorem ex_cons {L : Addr} {q : Addr × Obj} {fx : List (Addr × Obj)} : ∀ x ∈ exOf L fx, x = L ∨ ∃ p ∈ q :: fx, p.1 = x := fun x hx => (ex_in hx).imp id fun ⟨p, hp, e⟩ => ⟨p, .tail _ hp, e⟩
theorem dl_ne_it {w : World} {g h : Heap} {P : Addr → Prop} {L da I ax : Addr} {d0 : AV} {p q : List (Int × AV)} {b1 b2 : Bool} {dl news : List (Addr × Obj)} {it : Obj} {i : Nat} (D : DL w g P da d0 p q b1 b2 dl) (N : News g L h news) (hs : ∀ p ∈ dl, p ∈ news) (hi : (I, it) ∈ news) (ho : ObL ax i it) : ∀ p ∈ dl, p.1 ≠ I := by
  intro p hp
  refine News.ne N (hs p hp) hi fun e => ?_
  have := (D.1 p hp).2.1
  rw [e, ho.2] at this
  exact this _ rfl
theorem den_bnd {i : Nat} {c : Int} {p : List (Int × AV)} {a : AV} (lp : p.length ≤ 2 * i + 1) : (putP p c a).length ≤ 2 * (i + 1) + 1 := by
  have := put_len (p := p) (c := c) (a := a)
  omega
theorem DL.rep {w : World} {g : Heap} {P : Addr → Prop} {da : Addr} {d0 : AV} {p q : List (Int × AV)} {b2 : Bool} {dl : List (Addr × Obj)} (D : DL w g P da d0 p q true b2 dl) (gp : Good p) (gq : Good q) :
    ∀ h : Heap, (∀ b o, g.get? b = some o → h.get? b = some o) → (∀ x ∈ dl, h.get? x.1 = some x.2) → DataRep w h da p q := fun h kg hk => (D.2 h kg hk).rep gp gq
theorem dl_apart {w : World} {g h : Heap} {ex : List Addr} {L da : Addr} {d0 : AV} {p q : List (Int × AV)} {b1 b2 : Bool} {dl news : List (Addr × Obj)} {x : Addr × Obj} (D : DL w g (PX g ex) da d0 p q b1 b2 dl) (N : News g L h news) (hs : ∀ p ∈ dl, p ∈ news) (hx : x ∈ news) (he : x.1 ∈ ex)
    (ho : (∃ v, x.2.data = .cell v) ∨ ∃ es k, x.2.data = .dict es k) : ∀ p ∈ dl, p.1 ≠ x.1 := by
  intro p hp e
  have e2 : p.2 = x.2 := by
    have h1 := (N p (hs p hp)).1
    rw [e, (N x hx).1] at h1
    exact (Option.some.inj h1).symm
  have := D.1 p hp
  rw [e2, e] at this
  rcases ho with ⟨v, hv⟩ | ⟨es, k, hd⟩
  · exact this.1 _ hv
  · rcases this.2.2 with h2 | h2
    · exact h2.2 he
    · exact h2 _ _ hd
section
variable {w : World} {mg mb : Str → Option Value} {mean : ExcName → Option Value} {loose : List Str} {h₀ : Heap} {dp un : Nat} {fr : Option (List Env)} {gd : Option (List Code)} {s : Shared} {Q : Value → Shared → Prop} {E : Value → Shared → Prop}
theorem law_draw_M {g : Heap} {L : Addr} {m : Str → Option Value} {D C : Addr} {oD : Obj} {rest : List (Addr × Obj)} {tb : Tok} {k b : Int} {vs : List Value} {ns : List Int}
    (F : Fr g L s.heap m) (N : News g L s.heap ((D, oD) :: rest)) (hr : ∀ p ∈ rest, p.1 ≠ D) (X : (hd.heap_1 w.params).In g) (T : Top hVw loose mean mg mb g) (hdp : dp ≤ 900) (hun : un ≤ 9000)
    (hD : DeckO w oD C k) (hC : s.heap.IsList C (List.toArray vs)) (hi : IntsAre vs ns) (hns : ∀ n ∈ ns, 0 ≤ n ∧ n < 1000000007) (hln : ns.length ≤ 63) (hk : 0 ≤ k) (hk2 : k < 1000) (hb2 : b < 1000) (hb : 0 < b)
    (ret : ∀ v t oD' h' tk', 0 ≤ v → v < b → Fr g L h' m → News g L h' ((D, oD') :: rest) → DeckO w oD' C (k + 1) → Q (.int v t) { s with heap := h', toks := tk' }) :
    wpAny (model PR w) (AX dp un fr gd) (call (.ref 201) [.ref D, .int b tb]) Q E s := by
  obtain ⟨t3, hD⟩ := hD
  have h0 : g.get? D = none := (N _ (.head _)).2.2
  have hDL : D ≠ L := (N _ (.head _)).2.1
  refine draw_ok F.keep X T hdp hun (Heap.dictOf_iff.mpr ⟨oD, (N _ (.head _)).1, hD⟩) h0 hC hi hns hln hk hk2 hb2 hb (fun v t t3' h' tk' hv0 hv hkb hD' => ?_)
  obtain ⟨oD', ho', hd'⟩ := Heap.dictOf_iff.mp hD'
  refine ret v t oD' h' tk' hv0 hv (Fr.behind F hkb (by simpa using Ne.symm hDL) (by simpa using h0)) (fun p hp => ?_) ⟨t3', hd'⟩
  rcases List.mem_cons.mp hp with rfl | hp
  · exact ⟨ho', hDL, h0⟩
  · exact ⟨hkb _ _ (N p (.tail _ hp)).1 (by simpa using hr p hp), (N p (.tail _ hp)).2⟩
end
section
variable {prog : Program} {w : World} {A : Around} {E : Value → Shared → Prop} {s : Shared} {h₀ : Heap} {L : Addr} {m : Str → Option Value} {news : List (Addr × Obj)}
theorem ne_same {l b : Addr} {vs : List Value} {ns : List Int} {Q : Value → Shared → Prop} (hl : s.heap.IsList l (List.toArray vs)) (hb : s.heap.IsList b (List.toArray vs)) (hi : IntsAre vs ns) (hu : A.units < cLine) (h : Q (.bool false) s) :
    wpAny (model prog w) A (compareOp .NotEq (.ref l) (.ref b)) Q E s := by
  refine PySem.SeqAt.RcNeAt.lists (e := fun _ => true) hl hb rfl hu (fun j h1 h2 => ?_) prog w E Q (by rw [show (List.range (List.toArray vs).size).all (fun _ => true) = true from List.all_eq_true.mpr (fun _ _ => rfl)]; exact h)
  obtain ⟨n, t, e, _⟩ := IntsAre.getI hi (List.getElem?_eq_getElem (by simpa using h1))
  have e2 : (List.toArray vs)[j] = .int n t := by simpa using e
  rw [e2]
  have := PySem.SeqAt.EqAt.int_int (A := A.in1) (s := s) n t n t
  simpa using this
theorem slice_revK {value slice : PySem.Expr} {l : Addr} {vs : List Value} {ns : List Int} {vk : Value} {ops : List Value} {Q : Value → Shared → Prop}
    (F : Fr h₀ L s.heap m) (N : News h₀ L s.heap news) (hl : s.heap.IsList l (List.toArray vs)) (pk : IsPart vk (some (-1))) (hi : IntsAre vs ns) (hz : vs.length ≤ 5000)
    (h : ∀ D ws h', Fr h₀ L h' m → News h₀ L h' ((D, listOf (List.toArray ws) 0) :: news) → (∀ p ∈ news, p.1 < D) → IntsAre ws ns.reverse → Q (.ref D) { s with heap := h' })
    (hs : subscripted slice false (.ref l) (.ref s.heap.objs.size) = operate ops (getItem (.ref l) (.ref s.heap.objs.size)) := by with_unfolding_all rfl)
    (ht : ∀ r, letTemporaryGo value (.ref l) r = pure () := by intro _; with_unfolding_all rfl) :
    wpAny (model prog w) A (subscriptTail value slice (.ref l) (.ref s.heap.objs.size)) Q E { s with heap := s.heap.push { cls := .type "slice", data := .fields #[.none, .none, vk] } } :=
  krv_ints F N hl pk hi (fun D ws h' F' N' l1 hi' _ => h D ws h' F' N' l1 hi') hs ht (by rw [sizeLine_eq]; simp; omega)
end
section
variable {prog : Program} {w : World} {A : Around} {s : Shared} {env : Env}
/-- a turn that does not leave the function: the continuation does not matter -/
theorem turnF {target : PySem.Expr} {body : List Stmt} {v : Value} {Q : Flow → Shared → Prop} {J : Shared → Prop} {E1 E2 : Value → Shared → Prop}
    (h : wpAny (model prog w) A (assign target env v) (fun _ s' => wpAny (model prog w) A (execs body env) (TurnEnd (fun _ _ => False) J) E1 s') E2 s) :
    wpAny (model prog w) A (assign target env v) (fun _ s' => wpAny (model prog w) A (execs body env) (TurnEnd Q J) E1 s') E2 s :=
  wpAny_mono h (fun _ _ h' => wpAny_mono h' (fun f _ hh => by cases f <;> first | exact hh | exact hh.elim) fun _ _ x => x) fun _ _ x => x
end
structure LawJ1 (w : World) (g : Heap) (L wa da : Addr) (od : Addr × Obj) (fx : List (Addr × Obj)) (d0 : AV) (W : Signs) (i : Nat) (m : Str → Option Value) (news : List (Addr × Obj)) : Prop where
  p : m (Str.ofString "w") = some (.ref wa) ∧ m (Str.ofString "data") = some (.ref da) ∧ ∃ p q b1 b2 dl, news = (da, instObj 171 od.1) :: od :: (fx ++ dl) ∧
    DL w g (PX g (exOf L fx)) da d0 p q b1 b2 dl ∧ Good p ∧ Good q ∧ p.length ≤ 2 * i + 1 ∧ q.length ≤ 2 * i + 1 ∧ PAt p W i ∧ QAt q W i ∧ (0 < i → b1 = true)
structure LawJ2 (wa da : Addr) (nw : List (Addr × Obj)) (m : Str → Option Value) (news : List (Addr × Obj)) : Prop where
  p : m (Str.ofString "w") = some (.ref wa) ∧ m (Str.ofString "data") = some (.ref da) ∧ news = nw
structure LawJ3 (w : World) (L D C wa da : Addr) (o3 : Obj) (cn : List (Addr × Obj)) (i : Nat) (m : Str → Option Value) (news : List (Addr × Obj)) : Prop where
  p : m (Str.ofString "w") = some (.ref wa) ∧ m (Str.ofString "data") = some (.ref da) ∧ ∃ oD op ov kk, news = (L + 1, o3) :: (D, oD) :: (L + 1 + 1, op) :: cn ∧ op.data = .cell ov ∧ DeckO w oD C kk ∧ 0 ≤ kk ∧ kk ≤ 100 + 10 * (i : Int)
end

section
local macro_rules | `(tactic| walk_at "binaryOp Add ref ref") => `(tactic| with_reducible refine hold ?_)
local macro_rules | `(tactic| walk_at "eval Name") => `(tactic| (k_here; (with_reducible show wpAny _ _ (eval (Expr.Name _ _) (compEnvC _ _ _ _)) _ _ _); k_dflt (refine' nameB_C ?F ?c ?B ?d ?_ ?a ?b; (case a => rfl); (case b => rfl); (case F => k_asm); (case c => rfl); (case B => assumption); (case d => assumption); k_whole)))
local macro_rules | `(tactic| walk_at "subscriptTail Name Slice ref ref") => `(tactic| with_reducible refine hold ?_)
local macro_rules | `(tactic| walk_at "subscriptTail Name Name ref int") => `(tactic| with_reducible refine hold ?_)
local macro_rules | `(tactic| walk_at "subscriptTail Subscript Name Name Constant ref int") => `(tactic| with_reducible refine hold ?_)
local macro_rules | `(tactic| walk_at "exec Assign cons ListComp") => `(tactic| with_reducible refine hold ?_)
local macro_rules | `(tactic| k_qdec) => `(tactic| decide +kernel)
theorem lawH : PySem.Challenge.rw_nt0016_01.Holds := hd ⟨hRuns, by
  k_go0
  all_goals try k_fold
  k_steps
  rename World => w0
  rename Shared => s1
  show wpAny _ _ _ _ _ _
  rename Fr _ _ _ _ => F1
  rename News _ _ _ _ => N1
  rename Frag.In _ _ => KX
  rename Top _ _ _ _ _ _ => TT
  rename IntsAre _ _ => hI
  rename Heap.IsList _ _ _ => hLs
  rename (¬ _) => hlen
  refine law_deck_ok F1.keep KX TT (by decide) (by decide) hLs hI (by omega) (fun D C oD ws ns cc h2 tk2 hk hfD hfC hDC hoD hDk hoC hIw hns hln => ?_)
  have F2 := Fr.behind0 F1 hk
  have N2 := News.made F1 (News.made F1 (News.behind0 N1 hk) hoC hfC) hoD hfD
  have n1 := News.neFresh N1 (.head _) hfD
  have n2 := News.neFresh N1 (.tail _ (.head _)) hfD
  have n3 := News.neFresh N1 (.head _) hfC
  have n4 := News.neFresh N1 (.tail _ (.head _)) hfC
  dsimp only at n1 n2 n3 n4
  clear F1 N1 hk
  k_steps
  refine store_cell F2 (News.rot4 N2) (fun p hp => by
    simp only [List.mem_cons, List.not_mem_nil, or_false] at hp
    rcases hp with rfl | rfl | rfl
    · exact Ne.symm n2
    · exact Ne.symm n4
    · exact Nat.ne_of_gt (Nat.lt_succ_self _)) rfl (by assumption) (fun h3 o3 F3 N3 ho3 => ?_) rfl rfl
  clear F2 N2
  k_steps
  show wpAny _ _ _ _ _ _
  have gD := (N3 (D, oD) (by k_mem)).2.2
  have g3 : ∀ b o, _ → (hideAll h3 [D]).get? b = some o := fun b o e => hideAll_get _ (F3.keep b o e) (by simp only [List.mem_cons, List.not_mem_nil, or_false]; rintro rfl; rw [gD] at e; cases e)
  refine law_world_ok (h₀ := hideAll h3 [D]) (fun b o e => of_hideAll _ e) (KX.keeps g3) (TT.keeps g3) (by decide) (by decide) (oD := oD) (N3.get (by k_mem)) (hideAll_none _ (by simp)) hDk ⟨_, hideAll_get _ (N3.get (o := listOf (List.toArray ws) cc) (by k_mem)) (by simpa using Ne.symm hDC), rfl, _, rfl⟩ hIw hns hln (fun wa W k oD2 h4 tk4 hk4 hfw hoD2 hD2 hk0 hk1 ⟨ow, kvs, tl, hdo, loW, hWT, htl⟩ hNQ hW3 => ?_)
  have gDL := (N3 (D, oD) (by k_mem)).2.1
  have F4 := Fr.behind F3 hk4 (by simpa using Ne.symm gDL) (by simpa using gD)
  have N4 := News.setKB (news' := [(_, o3), (D, oD2), (C, listOf (List.toArray ws) cc), (_, _)]) N3 (by k_mem) hk4 hoD2 (fun p hp => by
    simp only [List.mem_cons, List.not_mem_nil, or_false] at hp
    rcases hp with rfl | rfl | rfl | rfl
    · exact .inr ⟨.head _, n2⟩
    · exact .inl rfl
    · exact .inr ⟨.tail _ (.tail _ (.head _)), Ne.symm hDC⟩
    · exact .inr ⟨.tail _ (.tail _ (.tail _ (.head _))), n1⟩)
  have N4b := News.join N4 (News.madeAll F3 htl)
  simp only [List.cons_append, List.nil_append] at N4b
  have N4c := N4b
  clear N4b
  obtain ⟨op, hop, N4b⟩ : ∃ op : Obj, op.data = .cell none ∧ News s1.heap s1.heap.objs.size h4 ((s1.heap.objs.size + 1, o3) :: (D, oD2) :: (C, listOf (List.toArray ws) cc) :: (s1.heap.objs.size + 1 + 1, op) :: (wa, ow) :: tl) := ⟨_, by assumption, N4c⟩
  have htap : ∀ p ∈ (wa, ow) :: tl, p.1 ≠ D ∧ p.1 ≠ s1.heap.objs.size + 1 ∧ p.1 ≠ s1.heap.objs.size + 1 + 1 := fun p hp => ⟨Ne.symm (News.neFresh N3 (p := (D, oD)) (by k_mem) (htl p hp).2), Ne.symm (News.neFresh N3 (p := (s1.heap.objs.size + 1, o3)) (by k_mem) (htl p hp).2), Ne.symm (News.neFresh N3 (p := (s1.heap.objs.size + 1 + 1, _)) (by k_mem) (htl p hp).2)⟩
  clear F3 N3 N4 N4c
  k_steps
  show wpAny _ _ _ _ _ _
  refine data_new2_ok F4 N4b KX TT (by decide) (by decide) (fun da dd DF MP PP WD u1 u2 u3 u4 oDF oMP dk h5 tk5 F5 N5 hdDF hdMP hscx hsc lDF lMP hkp5 hfr5 hne5 => ?_)
  obtain ⟨fx, hfx, hexn⟩ := ex_pack F4 N4b hfr5
  clear F4 N4b
  k_steps
  show wpAny _ _ _ _ _ _
  rename Fr _ _ _ _ => F6
  rename News _ _ _ _ => N6
  obtain ⟨d0, dl, NL, hDL⟩ := dl_start (PP := PP) (WD := WD) F6 N6 hexn (by
    intro p hp
    simp only [List.mem_cons, List.not_mem_nil, or_false] at hp
    rcases hp with rfl | rfl | rfl | rfl <;> k_mem) hdDF hdMP hscx hsc lDF lMP hne5
  have N7 := News.join (News.sub (news' := (da, instObj 171 dd) :: (dd, dictOf (dataEs w0 u1 u2 u3 u4 DF MP PP WD) 4) :: fx) N6 (fun p hp => by
    rcases List.mem_cons.mp hp with rfl | hp
    · k_mem
    rcases List.mem_cons.mp hp with rfl | hp
    · k_mem
    · rw [hfx] at hp; exact .tail _ (.tail _ (.tail _ (.tail _ (.tail _ hp)))))) NL
  simp only [List.cons_append] at N7
  clear N6 NL
  have hWm : ∀ p ∈ (wa, ow) :: tl, p ∈ fx := fun p hp => by rw [hfx]; exact .tail _ (.tail _ (.tail _ (.tail _ hp)))
  obtain ⟨cvs, hCvs, hCi⟩ : ∃ cvs, s1.heap.IsList 189 (List.toArray cvs) ∧ IntsAre cvs lawCodes := ⟨_, ⟨_, KX 189 _ (by k_is), rfl, _, rfl⟩, .cons _ _ (.cons _ _ (.cons _ _ (.cons _ _ (.cons _ _ (.cons _ _ (.cons _ _ (.cons _ _ (.cons _ _ (.cons _ _ .nil)))))))))⟩
  refine wpAny_For ?_
  k_steps
  show wpAny _ _ _ _ _ _
  refine for_list (items := List.toArray cvs) (fun ax i m news => LawJ1 w0 s1.heap s1.heap.objs.size wa da (dd, dictOf (dataEs w0 u1 u2 u3 u4 DF MP PP WD) 4) fx d0 W i m news) rfl F6 N7
    ⟨⟨rfl, rfl, _, _, _, _, dl, rfl, hDL, good_one _, good_one _, by simp, by simp, (fun c h => absurd h (by simp)), QAt.zero, fun h => absurd h (by omega)⟩⟩ ?_ ?_ ?_
  · rintro i m news h - F N
    exact hCvs.at fun o e => F.keep _ o e
  · rintro I i v it m₁ news₁ h tk hi2 hv hOb ⟨mw, md, p, q, b1, b2, dl, rfl, hDL, gp, gq, lp, lq, hPA, hQA, hb1⟩ - hnI - F2 N2
    clear F6 N7
    refine turnF ?_
    obtain ⟨c, t, rfl, hc⟩ := IntsAre.getI hCi (by simpa using hv)
    have hi3 : i < 10 := (List.getElem?_eq_some_iff.mp hc).1
    have hcm := List.mem_of_getElem? hc
    have hcp := codes_pos c hcm
    obtain ⟨⟨tt, tn, b, vs, hv1, hv2, hv3, hS⟩, hn1, hn2, hl3⟩ := hWT c hcm
    refine wpAny_assign_Name (storeX_L F2 N2 (fun h' F3 N3 => ?_) rfl rfl)
    clear F2 N2
    k_steps
    show wpAny _ _ _ _ _ _
    have inL : ∀ {dl' : List (Addr × Obj)} {p : Addr × Obj}, p ∈ (wa, ow) :: tl → p ∈ fx ++ dl' := fun hp => List.mem_append_left _ (hWm _ hp)
    refine item_dictO (Heap.dictOf_iff.mpr ⟨ow, N3.get (.tail _ (.tail _ (.tail _ (inL (.head _))))), hdo⟩) (intKind_is PR _ c t) hv1 ?_ (by with_unfolding_all rfl)
    k_steps
    show wpAny _ _ _ _ _ _
    refine item_tupleT (l := [Value.str (W c).1 tn, Value.ref b]) (j := 0) ⟨_, N3.get (.tail _ (.tail _ (.tail _ (inL (.tail _ hv2))))), rfl, _, rfl⟩ (by omega) (by omega) (by rfl) rfl ?_ (by with_unfolding_all rfl)
    k_steps
    show wpAny _ _ _ _ _ _
    refine put_sc_L (a := .str (W c).1) (fx := (I, it) :: fx) F3 (News.third N3) ex_self (fx_it hOb) ex_cons KX TT (by decide) (by decide) hDL gp (by omega) hcp.1 hcp.2 ⟨tn, rfl⟩ (fun dl' h' tk' F4 N4 hDL4 => ?_)
    clear F3 N3
    k_steps
    show wpAny _ _ _ _ _ _
    refine item_dictO (Heap.dictOf_iff.mpr ⟨ow, N4.get (.tail _ (.tail _ (.tail _ (inL (.head _))))), hdo⟩) (intKind_is PR _ c t) hv1 ?_ (by with_unfolding_all rfl)
    k_steps
    show wpAny _ _ _ _ _ _
    refine item_tupleT (l := [Value.str (W c).1 tn, Value.ref b]) (j := 1) ⟨_, N4.get (.tail _ (.tail _ (.tail _ (inL (.tail _ hv2))))), rfl, _, rfl⟩ (by omega) (by omega) (by rfl) rfl ?_ (by with_unfolding_all rfl)
    k_steps
    rename Fr _ _ _ _ => F5
    rename News _ _ _ _ => N5
    have gb : (b, tupOf (List.toArray vs)) ∈ fx := hWm _ (.tail _ hv3)
    refine ne_tups ⟨_, N5.get (.tail _ (.tail _ (.tail _ (.tail _ (List.mem_append_left _ gb))))), rfl, _, rfl⟩ ⟨_, (N5 _ (.head _)).1, rfl, _, rfl⟩ hS .nil (by simp only [units_deeper]; decide) ?_
    have N6 := News.sub (news' := (da, instObj 171 dd) :: (dd, dictOf (dataEs w0 u1 u2 u3 u4 DF MP PP WD) 4) :: ((I, it) :: fx ++ dl')) N5 (fun p hp => .tail _ hp)
    have hIda : da ≠ I := hnI _ (.head _)
    have hIdd : dd ≠ I := hnI _ (.tail _ (.head _))
    have hIfx : ∀ p ∈ fx, p.1 ≠ I := fun p hp => hnI p (.tail _ (.tail _ (List.mem_append_left _ hp)))
    clear N5
    have gp2 := good_put (a := .str (W c).1) gp hcp.1 (by omega)
    have lp2 := den_bnd (c := c) (a := .str (W c).1) lp
    have hPA2 := hPA.next gp (by omega) hc
    by_cases hs0 : (W c).2 = []
    · rw [decide_eq_true hs0, Bool.not_true]
      k_steps
      rename Fr _ _ _ _ => F7
      rename News _ _ _ _ => N7
      have hIdl := dl_ne_it hDL4 N7 (fun p hp => .tail _ (.tail _ (List.mem_append_right _ hp))) (.tail _ (.tail _ (.head _))) hOb
      refine TurnK.intro (news' := (da, instObj 171 dd) :: (dd, dictOf (dataEs w0 u1 u2 u3 u4 DF MP PP WD) 4) :: (fx ++ dl')) F7 N7 (fun p hp => by
        simp only [List.mem_cons, List.cons_append] at hp ⊢
        rcases hp with h | h | h | h <;> simp [h]) (fun p hp => by
        simp only [List.mem_cons, List.mem_append] at hp
        rcases hp with rfl | rfl | hp | hp
        · exact hIda
        · exact hIdd
        · exact hIfx p hp
        · exact hIdl p hp) ⟨⟨mw, md, _, _, _, _, dl', rfl, hDL4, gp2, gq, lp2, by omega, hPA2, hQA.skip hc hs0, fun _ => rfl⟩⟩
    · rw [decide_eq_false hs0, Bool.not_false]
      k_steps
      show wpAny _ _ _ _ _ _
      refine item_dictO (Heap.dictOf_iff.mpr ⟨ow, N6.get (.tail _ (.tail _ (.tail _ (inL (.head _))))), hdo⟩) (intKind_is PR _ c t) hv1 ?_ (by with_unfolding_all rfl)
      k_steps
      show wpAny _ _ _ _ _ _
      refine item_tupleT (l := [Value.str (W c).1 tn, Value.ref b]) (j := 1) ⟨_, N6.get (.tail _ (.tail _ (.tail _ (inL (.tail _ hv2))))), rfl, _, rfl⟩ (by omega) (by omega) (by rfl) rfl ?_ (by with_unfolding_all rfl)
      k_steps
      show wpAny _ _ _ _ _ _
      refine put_scx_L (a := .tup (W c).2) (fx := (I, it) :: fx) F5 N6 ex_self (fx_it hOb) ex_cons KX TT (by decide) (by decide) hDL4 gq (by omega) hcp.1 hcp.2 ⟨b, vs, rfl, ⟨_, N6.get (.tail _ (.tail _ (.tail _ (List.mem_append_left _ gb)))), rfl, _, rfl⟩, hS⟩ (fun dl5 h' tk' F7 N7 hDL5 => ?_)
      clear F5 N6
      have hIdl := dl_ne_it hDL5 N7 (fun p hp => .tail _ (.tail _ (List.mem_append_right _ hp))) (.tail _ (.tail _ (.head _))) hOb
      k_steps
      refine TurnK.intro (news' := (da, instObj 171 dd) :: (dd, dictOf (dataEs w0 u1 u2 u3 u4 DF MP PP WD) 4) :: (fx ++ dl5)) F7 N7 (fun p hp => by
        simp only [List.mem_cons, List.cons_append] at hp ⊢
        rcases hp with h | h | h | h <;> simp [h]) (fun p hp => by
        simp only [List.mem_cons, List.mem_append] at hp
        rcases hp with rfl | rfl | hp | hp
        · exact hIda
        · exact hIdd
        · exact hIfx p hp
        · exact hIdl p hp) ⟨⟨mw, md, _, _, _, _, dl5, rfl, hDL5, gp2, good_put gq hcp.1 (by omega), lp2, den_bnd lq, hPA2, hQA.next gq (by omega) hc hs0, fun _ => rfl⟩⟩
  · rintro m₁ news₁ h tk ⟨mw, md, p, q, b1, b2, dl', rfl, hDL, gp, gq, lp, lq, hPA, hQA, hb1⟩ F2 N2
    clear F6 N7
    have hsz : (List.toArray cvs).size = 10 := by have := hCi.length; simp only [List.size_toArray, this]; rfl
    rw [hsz] at hPA hQA lp lq hb1
    obtain rfl : b1 = true := hb1 (by omega)
    have hSg := signs_ok hPA hQA hW3
    have hDRep := hDL.rep gp gq
    subst hfx
    obtain ⟨t9, es9, ep9, hd9, hd9', _⟩ := id hD2
    have hapD := dl_apart hDL N2 (x := (D, oD2)) (fun p hp => by simp [hp]) (by simp) (ex_of (p := (D, oD2)) (by simp)) (.inr ⟨_, _, hd9'⟩)
    have hapC := dl_apart hDL N2 (x := (s1.heap.objs.size + 1, o3)) (fun p hp => by simp [hp]) (by simp) (ex_of (p := (s1.heap.objs.size + 1, o3)) (by simp)) (.inl ⟨_, ho3⟩)
    have hapP := dl_apart hDL N2 (x := (s1.heap.objs.size + 1 + 1, op)) (fun p hp => by simp [hp]) (by simp) (ex_of (p := (s1.heap.objs.size + 1 + 1, op)) (by simp)) (.inl ⟨_, hop⟩)
    obtain ⟨cn, hcn⟩ : ∃ cn, cn = (da, instObj 171 dd) :: (dd, dictOf (dataEs w0 u1 u2 u3 u4 DF MP PP WD) 4) :: (C, listOf (List.toArray ws) cc) :: (wa, ow) :: (tl ++ dl') := ⟨_, rfl⟩
    have hdaN : ∀ y ∈ [da, dd], y ≠ D ∧ y ≠ s1.heap.objs.size + 1 ∧ y ≠ s1.heap.objs.size + 1 + 1 := by
      intro y hy
      have hy2 := hexn y (by
        simp only [List.mem_cons, List.not_mem_nil, or_false] at hy ⊢
        rcases hy with h | h <;> simp [h])
      refine ⟨?_, ?_, ?_⟩
      · rintro rfl; exact hy2 (by simp [exOf])
      · rintro rfl; exact hy2 (by simp [exOf])
      · rintro rfl; exact hy2 (by simp [exOf])
    have hap : ∀ p ∈ cn, p.1 ≠ D ∧ p.1 ≠ s1.heap.objs.size + 1 ∧ p.1 ≠ s1.heap.objs.size + 1 + 1 := by
      intro p hp
      rw [hcn] at hp
      rcases List.mem_cons.mp hp with rfl | hp
      · exact hdaN _ (by simp)
      rcases List.mem_cons.mp hp with rfl | hp
      · exact hdaN _ (by simp)
      rcases List.mem_cons.mp hp with rfl | hp
      · exact ⟨Ne.symm hDC, Ne.symm n4, Ne.symm n3⟩
      rcases List.mem_cons.mp hp with rfl | hp
      · exact htap _ (.head _)
      rcases List.mem_append.mp hp with hp | hp
      · exact htap _ (.tail _ hp)
      · exact ⟨hapD p hp, hapC p hp, hapP p hp⟩
    have N8 : News s1.heap s1.heap.objs.size h ((s1.heap.objs.size + 1, o3) :: (D, oD2) :: (s1.heap.objs.size + 1 + 1, op) :: cn) := News.sub N2 (fun p hp => by
      rw [hcn] at hp
      simp only [List.mem_cons, List.mem_append, List.cons_append] at hp ⊢
      rcases hp with h | h | h | h | h | h | h | h | h <;> simp [h])
    have hcnC : (C, listOf (List.toArray ws) cc) ∈ cn := by rw [hcn]; simp
    have hDR : ∀ h' : Heap, (∀ b o, s1.heap.get? b = some o → h'.get? b = some o) → (∀ x ∈ cn, h'.get? x.1 = some x.2) → DataRep w0 h' da p q := fun h' kg hk => hDRep h' kg (fun x hx => hk x (by rw [hcn]; simp [hx]))
    have hWR : ∀ h' : Heap, (∀ x ∈ cn, h'.get? x.1 = some x.2) → WRep w0 h' wa W lawCodes := fun h' hk => WRep.ofTl hdo loW hWT (fun x hx => hk x (by rw [hcn]; rcases List.mem_cons.mp hx with rfl | hx <;> simp_all))
    have hD0 : D ≠ s1.heap.objs.size + 1 ∧ D ≠ s1.heap.objs.size + 1 + 1 := ⟨Ne.symm n2, Ne.symm n1⟩
    clear hDRep hDL N2 hapD hapC hapP hcn hdaN
    k_steps
    show wpAny _ _ _ _ _ _
    clear hexn hDL hWm hPA hQA hb1 hd9 hd9' hWT hdo htap
    refine wpAny_For ?_
    k_steps
    show wpAny _ _ _ _ _ _
    refine slice_uptoK (vs := cvs) (k := 3) F2 N8 (hCvs.at fun o e => F2.keep _ o e) rfl (by rw [List.size_toArray] at hsz; omega) (fun Dl h' F3 N3 l3 => ?_)
    clear F2 N8
    k_steps
    show wpAny _ _ _ _ _ _
    refine for_list (items := List.toArray (cvs.take 3)) (fun ax i m news => LawJ2 wa da ((Dl, listOf (List.toArray (cvs.take 3)) 0) :: (s1.heap.objs.size + 1, o3) :: (D, oD2) :: (s1.heap.objs.size + 1 + 1, op) :: cn) m news) rfl F3 N3
      ⟨mw, md, rfl⟩ ?_ ?_ ?_
    · rintro i m news h ⟨_, _, rfl⟩ F N
      exact ⟨_, N.get (.head _), rfl, _, rfl⟩
    · rintro I i v it m₁ news₁ h tk hi2 hv - ⟨mw, md, rfl⟩ - hnI - F4 N4
      clear F3 N3
      refine turnF ?_
      obtain ⟨c, t, rfl, hc⟩ := IntsAre.getI (hCi.take 3) (by simpa using hv)
      have hcm : c ∈ lawCodes := List.mem_of_mem_take (List.mem_of_getElem? hc)
      refine wpAny_assign_Name (storeX_L F4 N4 (fun h' F5 N5 => ?_) rfl rfl)
      clear F4 N4
      k_steps
      show wpAny _ _ _ _ _ _
      rename Fr _ _ _ _ => F6
      rename News _ _ _ _ => N6
      refine resolved_okO (fun b o e => e) (KX.keeps F6.keep) (TT.keeps F6.keep) (by decide) (by decide) (hDR _ F6.keep (fun x hx => N6.get (by simp [hx]))) (hSg.sub (cs := [c]) (fun e he => by rw [List.mem_singleton.mp he]; exact hcm)) ⟨_, (N6 _ (.head _)).1, rfl, _, rfl⟩ (.cons _ _ .nil) (by simp) (fun v1 r1 ol1 h' tk' hk hol1 hO1 hR1 => ?_)
      have F7 := Fr.behind0 F6 hk
      have N7 := News.join (News.behind0 N6 hk) (News.madeAll F6 hol1)
      simp only [List.cons_append] at N7
      clear hk hol1 F6 N6
      k_steps
      show wpAny _ _ _ _ _ _
      rename Fr _ _ _ _ => F8
      rename News _ _ _ _ => N8
      refine law_resolved_okO (fun b o e => e) (KX.keeps F8.keep) (TT.keeps F8.keep) (by decide) (by decide) (hWR _ (fun x hx => N8.get (by simp [hx]))) hNQ (cs := [c]) (fun e he => by rw [List.mem_singleton.mp he]; exact hcm) (nm_len hW3) ⟨_, (N8 _ (.head _)).1, rfl, _, rfl⟩ (.cons _ _ .nil) (by simp) (fun v2 r2 ol2 h' tk' hk hol2 hO2 hR2 => ?_)
      have F9 := Fr.behind0 F8 hk
      have hv1 := hO1.is (h := h') (fun x hx => hk _ _ (N8.get (by simp [hx])) (fun h => nomatch h))
      have hv2 := hO2.is (h := h') (fun x hx => (hol2 x hx).1)
      have N9 := News.behind0 N8 hk
      clear hk hol2 F8 N8
      k_steps
      refine ne_o hv1 hv2 (by simp only [units_deeper]; decide) ?_
      rw [decide_eq_true (hR1.unique hR2 (fun _ => Iff.rfl)), Bool.not_true]
      k_steps
      rename Fr _ _ _ _ => F10
      rename News _ _ _ _ => N10
      exact TurnK.intro (news' := (Dl, listOf (List.toArray (cvs.take 3)) 0) :: (s1.heap.objs.size + 1, o3) :: (D, oD2) :: (s1.heap.objs.size + 1 + 1, op) :: cn) F10 N10 (fun p hp => by
        simp only [List.mem_cons, List.mem_append] at hp ⊢
        rcases hp with h | h | h | h | h | h <;> simp [h]) hnI ⟨mw, md, rfl⟩
    · rintro m₁ news₁ h tk ⟨mw, md, rfl⟩ F4 N4
      clear F3 N3
      have N5 : News s1.heap s1.heap.objs.size h ((s1.heap.objs.size + 1, o3) :: (D, oD2) :: (s1.heap.objs.size + 1 + 1, op) :: cn) := News.sub N4 (fun p hp => .tail _ hp)
      clear N4
      k_steps
      show wpAny _ _ _ _ _ _
      refine wpAny_For ?_
      k_steps
      show wpAny _ _ _ _ _ _
      rename_i hRg F5 N6 _
      refine for_range (fun i m news => LawJ3 w0 s1.heap.objs.size D C wa da o3 cn i m news) rfl F5 N6
        ⟨⟨mw, md, oD2, op, _, k, rfl, hop, hD2, hk0, by omega⟩⟩ hRg (by omega) (by omega) ?_ ?_
      · clear F5 N6 hRg hop hD2 hk0 hk1
        rintro I i v it m₁ news₁ h tk hi2 ⟨t, rfl⟩ - ⟨mw, md, oD, op, ov, kk, rfl, hop, hDk, hk0, hk1⟩ hnI F5 N5
        refine turnF ?_
        refine wpAny_assign_Name (storeX_L F5 N5 (fun h' F6 N6 => ?_) rfl rfl)
        clear F5 N5
        k_steps
        show wpAny _ _ _ _ _ _
        refine comp_enterA (cl := [(Str.ofString "deck", s1.heap.objs.size + 1)]) (by rfl) (by with_unfolding_all rfl) rfl (by decide) ?_ (by intro _; rfl)
        k_steps
        show wpAny _ _ _ _ _ _
        have hID : I ≠ D := Ne.symm (hnI (D, oD) (by k_mem))
        have hIL : I ≠ s1.heap.objs.size + 1 := Ne.symm (hnI (_, o3) (.head _))
        have hIP : I ≠ s1.heap.objs.size + 1 + 1 := Ne.symm (hnI (_, op) (by k_mem))
        have hIc : ∀ p ∈ cn, p.1 ≠ I := fun p hp => hnI p (by simp [hp])
        have hrD : ∀ p ∈ (I, it) :: (s1.heap.objs.size + 1, o3) :: (s1.heap.objs.size + 1 + 1, op) :: cn, p.1 ≠ D := by
          intro p hp
          rcases List.mem_cons.mp hp with rfl | hp
          · exact hID
          rcases List.mem_cons.mp hp with rfl | hp
          · exact Ne.symm hD0.1
          rcases List.mem_cons.mp hp with rfl | hp
          · exact Ne.symm hD0.2
          · exact (hap p hp).1
        have N7 : News s1.heap s1.heap.objs.size h' ((D, oD) :: (I, it) :: (s1.heap.objs.size + 1, o3) :: (s1.heap.objs.size + 1 + 1, op) :: cn) := News.sub N6 (fun p hp => by
          simp only [List.mem_cons] at hp ⊢
          rcases hp with h | h | h | h | h <;> simp [h])
        clear N6
        have hCl : ∀ {h'' : Heap} {l : List (Addr × Obj)}, News s1.heap s1.heap.objs.size h'' l → (∀ p ∈ cn, p ∈ l) → h''.IsList C (List.toArray ws) := fun N hs => ⟨_, N.get (hs _ hcnC), rfl, _, rfl⟩
        refine law_draw_M F6 N7 hrD KX TT (by decide) (by decide) hDk (hCl N7 (fun p hp => by simp [hp])) hIw hns hln hk0 (by omega) (by omega) (by omega) (fun mny tm oD1 h' tk' hm0 hm1 F8 N8 hD1 => ?_)
        clear F6 N7
        k_steps
        rename_i h10 tk10 rt ru rv hRng F10 N10 hup
        have gD0 : s1.heap.get? D = none := (N10 (D, oD1) (.head _)).2.2
        have gDL : D ≠ s1.heap.objs.size := (N10 (D, oD1) (.head _)).2.1
        refine comp_range (m₀ := _) F10 [(D, oD1)] (fun p hp => by rw [List.mem_singleton.mp hp]; exact gDL) (fun p hp => by rw [List.mem_singleton.mp hp]; exact gD0) (fun j out news => ∃ oD' cs, news = [(D, oD')] ∧ DeckO w0 oD' C (kk + 1 + (j : Int)) ∧ IntsAre out cs ∧ (∀ c ∈ cs, c ∈ lawCodes) ∧ out.length = j) (by decide) rfl rfl rfl hRng hm0 (by omega) (by simpa using N10.get (o := oD1) (by k_mem))
          ⟨oD1, [], rfl, by simpa using hD1, .nil, by simp, rfl⟩ (fun j out news ⟨_, _, _, _, _, _, h⟩ => by omega) (fun C2 Dl it2 j v out c2 news h tk m hj hJ hT hm => ?_) rfl rfl (fun Dt h11 tk out c2 news hJ F11 hk11 hf11 hDt hN11 hne11 => ?_)
        · obtain ⟨oD', cs, rfl, hDk', hSo, hmem, hlo⟩ := hJ
          obtain ⟨F, N, nD, nI⟩ := hT
          have nD' := nD _ (.head _)
          have nI' := nI _ (.head _)
          dsimp only at nD' nI'
          have gB : ∀ b o, s1.heap.get? b = some o → (hideAll h10 ([(D, oD1)].map (·.1))).get? b = some o := fun b o e => hideAll_get _ (F10.keep b o e) (by simp; rintro rfl; rw [gD0] at e; cases e)
          have XB := KX.keeps gB
          have TB := TT.keeps gB
          have hB2 : (hideAll h10 ([(D, oD1)].map (·.1))).get? (s1.heap.objs.size + 1) = some o3 := hideAll_get _ (N10.get (by k_mem)) (by simpa using Ne.symm hD0.1)
          have hBC : (hideAll h10 ([(D, oD1)].map (·.1))).IsList C (List.toArray ws) := ⟨_, hideAll_get _ (N10.get (o := listOf (List.toArray ws) cc) (by simp [hcnC])) (by simpa using (hap _ hcnC).1), rfl, _, rfl⟩
          have hBL : (hideAll h10 ([(D, oD1)].map (·.1))).IsList 189 (List.toArray cvs) := hCvs.at fun o e => gB _ o e
          have NN := News.sub (news' := [(D, oD'), (Dl, listOf (List.toArray out) c2), (h10.objs.size, it2)]) N (by
            intro p hp
            simp only [List.mem_cons, List.not_mem_nil, or_false] at hp
            rcases hp with rfl | rfl | rfl <;> k_mem)
          clear N
          k_steps
          show wpAny _ _ _ _ _ _
          refine law_draw_N F NN (by
            intro p hp
            simp only [List.mem_cons, List.not_mem_nil, or_false] at hp
            rcases hp with rfl | rfl
            · exact Ne.symm nD'
            · exact Ne.symm nI') XB TB (by decide) (by decide) hDk' hBC hIw hns hln (by omega) (by omega) (by omega) (by omega) (fun v3 t3 oD3 h' tk' hv0 hv1 F12 N12 hD3 => ?_)
          obtain ⟨z, tz, hz, hzn⟩ : ∃ z tz, cvs[v3.toNat]? = some (.int z tz) ∧ z ∈ lawCodes := by
            have hlt : v3.toNat < cvs.length := by rw [List.size_toArray] at hsz; omega
            obtain ⟨y, ty, e, h2⟩ := IntsAre.getI hCi (List.getElem?_eq_getElem hlt)
            exact ⟨y, ty, by rw [List.getElem?_eq_getElem hlt, e], List.mem_of_getElem? h2⟩
          refine item_listV (vs := cvs) (hBL.at fun o e => F12.keep _ o e) hv0 (by omega) hz ?_ (by with_unfolding_all rfl)
          refine ⟨h', tk', m, [(D, oD3)], rfl, ⟨F12, ?_, ?_, ?_⟩, oD3, cs ++ [z], rfl, ?_, IntsAre.append hSo (.cons z tz .nil), ?_, by simp; omega⟩
          · refine News.sub N12 (fun p hp => ?_)
            simp only [List.mem_cons, List.not_mem_nil, or_false] at hp
            rcases hp with rfl | rfl | rfl <;> k_mem
          · simpa using nD'
          · simpa using nI'
          · have e : (kk + 1 + ((j + 1 : Nat) : Int)) = kk + 1 + (j : Int) + 1 := by omega
            rw [e]; exact hD3
          · intro y hy
            rcases List.mem_append.mp hy with hy | hy
            · exact hmem y hy
            · rw [List.mem_singleton.mp hy]; exact hzn
        · obtain ⟨oD3, cs, rfl, hD3, hSo, hmem, hlo⟩ := hJ
          have hN11D := hN11 _ (.head _) gDL
          have hDt1 : ∀ p, p ∈ (D, oD1) :: (I, it) :: (s1.heap.objs.size + 1, o3) :: (s1.heap.objs.size + 1 + 1, op) :: cn → p.1 ≠ Dt := fun p hp e => by
            have := (N10 p hp).1
            rw [e, hf11] at this; cases this
          have N11 : News s1.heap s1.heap.objs.size h11 ((Dt, listOf (List.toArray out) c2) :: (D, oD3) :: (I, it) :: (s1.heap.objs.size + 1, o3) :: (s1.heap.objs.size + 1 + 1, op) :: cn) := by
            refine News.made F10 (fun p hp => ?_) hDt hf11
            rcases List.mem_cons.mp hp with rfl | hp
            · exact ⟨hN11D, gDL, gD0⟩
            · have h3 := (N10 p (.tail _ hp)).2.1
              exact ⟨hk11 _ _ (N10 p (.tail _ hp)).1 (by simp only [List.map_cons, List.map_nil, List.mem_cons, List.not_mem_nil, or_false, not_or]; exact ⟨h3, hrD p hp⟩), (N10 p (.tail _ hp)).2⟩
          clear N10 F10
          have hcl : cs.length ≤ 6 := by have := hSo.length; omega
          k_steps
          show wpAny _ _ _ _ _ _
          have N11b : News s1.heap s1.heap.objs.size h11 ((Dt, listOf (List.toArray out) c2) :: (D, oD3) :: (I, it) :: (s1.heap.objs.size + 1, o3) :: (s1.heap.objs.size + 1 + 1, op) :: cn) := N11
          refine law_resolved_okO (fun b o e => e) (KX.keeps F11.keep) (TT.keeps F11.keep) (by decide) (by decide) (hWR _ (fun x hx => N11.get (by simp [hx]))) hNQ (cs := cs) hmem (nm_len hW3) ⟨_, (N11 _ (.head _)).1, rfl, _, rfl⟩ hSo (by omega) (fun v2 r2 ol h' tk' hk hol hO2 hR2 => ?_)
          have F12 := Fr.behind0 F11 hk
          have N12 := News.join (News.behind0 N11 hk) (News.madeAll F11 hol)
          simp only [List.cons_append] at N12
          clear hk hol F11 N11 N11b
          k_steps
          show wpAny _ _ _ _ _ _
          refine list_listK F12 N12 (vs := out) ⟨_, (N12 _ (.head _)).1, rfl, _, rfl⟩ (by have := hSo.length; omega) (fun Dw cw h' F13 N13 l13 => ?_)
          clear F12 N12
          k_steps
          show wpAny _ _ _ _ _ _
          rename Fr _ _ _ _ => F14
          rename News _ _ _ _ => N14x
          have N14 : News s1.heap s1.heap.objs.size _ ((Dt, listOf (List.toArray out) c2) :: (Dw, listOf (List.toArray out) cw) :: (D, oD3) :: (I, it) :: (s1.heap.objs.size + 1, o3) :: (s1.heap.objs.size + 1 + 1, op) :: (cn ++ ol)) := News.sub N14x (fun p hp => by
            simp only [List.mem_cons] at hp ⊢
            rcases hp with h | h | h | h | h | h | h <;> simp [h])
          clear N14x
          refine resolved_okO (fun b o e => e) (KX.keeps F14.keep) (TT.keeps F14.keep) (by decide) (by decide) (hDR _ F14.keep (fun x hx => N14.get (by simp [hx]))) (hSg.sub (cs := cs) hmem) ⟨_, (N14 _ (.head _)).1, rfl, _, rfl⟩ hSo (by omega) (fun v1 r1 ol1 h' tk' hk hol1 hO1 hR1 => ?_)
          have F15 := Fr.behind0 F14 hk
          have hv1 := hO1.is (h := h') (fun x hx => (hol1 x hx).1)
          have N15 := News.behind0 N14 hk
          have hv2 := hO2.is (h := h') (fun x hx => N15.get (by simp [hx]))
          obtain rfl := hR1.unique hR2 (fun _ => Iff.rfl)
          clear hk hol1 F14 N14
          k_steps
          refine ne_o hv1 hv2 (by simp only [units_deeper]; decide) ?_
          rw [decide_eq_true rfl, Bool.not_true]
          clear hv1 hv2 hO1 hR1
          k_steps
          show wpAny _ _ _ _ _ _
          refine slice_revK F15 N15 ⟨_, (N15 _ (.head _)).1, rfl, _, rfl⟩ (.int _ _) hSo (by have := hSo.length; omega) (fun Dr rs h' F16 N16 l16 hRs => ?_)
          clear F15 N15
          k_steps
          show wpAny _ _ _ _ _ _
          refine slice_uptoK (vs := out) (k := 2) F16 N16 ⟨_, N16.get (o := listOf (List.toArray out) c2) (by k_mem), rfl, _, rfl⟩ rfl (by have := hSo.length; omega) (fun Du h' F17 N17 l17 => ?_)
          clear F16 N16
          k_steps
          show wpAny _ _ _ _ _ _
          refine add_listsK F17 N17 (vs := rs) (ws := out.take 2) ⟨_, N17.get (o := listOf (List.toArray rs) 0) (by k_mem), rfl, _, rfl⟩ ⟨_, (N17 _ (.head _)).1, rfl, _, rfl⟩ (by have h1 := hRs.length; have h2 := List.length_reverse (as := cs); have h3 := List.length_take_le 2 out; omega) (fun Ds h' F18 N18 l18 => ?_)
          clear F17 N17
          k_steps
          show wpAny _ _ _ _ _ _
          have hcs2 : ∀ c, c ∈ cs.reverse ++ cs.take 2 ↔ c ∈ cs := fun c => by
            simp only [List.mem_append, List.mem_reverse]
            exact ⟨fun h => h.elim id List.mem_of_mem_take, .inl⟩
          refine resolved_okO (fun b o e => e) (KX.keeps F18.keep) (TT.keeps F18.keep) (by decide) (by decide) (hDR _ F18.keep (fun x hx => N18.get (by simp [hx]))) (hSg.sub (cs := cs.reverse ++ cs.take 2) (fun e he => hmem e ((hcs2 e).mp he))) ⟨_, (N18 _ (.head _)).1, rfl, _, rfl⟩ (IntsAre.append hRs (hSo.take 2)) (by simp only [List.length_append, List.length_reverse, List.length_take]; omega) (fun v3 r3 ol3 h' tk' hk hol3 hO3 hR3 => ?_)
          have F19 := Fr.behind0 F18 hk
          have hv3 := hO3.is (h := h') (fun x hx => (hol3 x hx).1)
          have N19 := News.behind0 N18 hk
          have hv2 := hO2.is (h := h') (fun x hx => N19.get (by simp [hx]))
          obtain rfl := hR3.unique hR2 hcs2
          clear hk hol3 F18 N18
          k_steps
          refine ne_o hv3 hv2 (by simp only [units_deeper]; decide) ?_
          rw [decide_eq_true rfl, Bool.not_true]
          clear hv3 hv2 hO3 hR3
          k_steps
          show wpAny _ _ _ _ _ _
          refine slice_fromK (vs := out) (k := 1) F19 N19 ⟨_, N19.get (o := listOf (List.toArray out) c2) (by k_mem), rfl, _, rfl⟩ rfl (by have := hSo.length; omega) (fun Dv h' F20 N20 l20 => ?_)
          clear F19 N19
          k_steps
          show wpAny _ _ _ _ _ _
          have hcs3 : ∀ c, c ∈ cs.drop 1 → c ∈ cs := fun c h => List.mem_of_mem_drop h
          refine resolved_okO (fun b o e => e) (KX.keeps F20.keep) (TT.keeps F20.keep) (by decide) (by decide) (hDR _ F20.keep (fun x hx => N20.get (by simp [hx]))) (hSg.sub (cs := cs.drop 1) (fun e he => hmem e (hcs3 e he))) ⟨_, (N20 _ (.head _)).1, rfl, _, rfl⟩ (hSo.drop 1) (by simp only [List.length_drop]; omega) (fun v4 r4 ol4 h' tk' hk hol4 hO4 hR4 => ?_)
          have F21 := Fr.behind0 F20 hk
          have N21 := News.join (News.behind0 N20 hk) (News.madeAll F20 hol4)
          have N22 : News s1.heap s1.heap.objs.size h' ((s1.heap.objs.size + 1 + 1, op) :: (D, oD3) :: (I, it) :: (s1.heap.objs.size + 1, o3) :: (cn ++ (ol ++ ol4))) := News.sub N21 (fun p hp => by
            simp only [List.mem_cons, List.mem_append, List.cons_append] at hp ⊢
            rcases hp with h | h | h | h | h | h | h <;> simp [h])
          clear hk hol4 F20 N20 N21
          k_steps
          have hopne : ∀ p ∈ (D, oD3) :: (I, it) :: (s1.heap.objs.size + 1, o3) :: (cn ++ (ol ++ ol4)), p.1 ≠ s1.heap.objs.size + 1 + 1 := by
            intro p hp
            rcases List.mem_cons.mp hp with rfl | hp'
            · exact hD0.2
            rcases List.mem_cons.mp hp' with rfl | hp'
            · exact hIP
            rcases List.mem_cons.mp hp' with rfl | hp'
            · exact Nat.ne_of_lt (Nat.lt_succ_self _)
            rcases List.mem_append.mp hp' with hp' | hp'
            · exact (hap p hp').2.2
            · refine News.ne N22 (q := (s1.heap.objs.size + 1 + 1, op)) (.tail _ hp) (.head _) ?_
              obtain ⟨ws', e⟩ : ∃ ws', p.2 = tupOf ws' := (List.mem_append.mp hp').elim (hO2.tups p) (hO4.tups p)
              rw [e]; exact tup_ne_cell hop
          have hnI2 : ∀ {op' : Obj}, ∀ p ∈ (s1.heap.objs.size + 1, o3) :: (D, oD3) :: (s1.heap.objs.size + 1 + 1, op') :: cn, p.1 ≠ I := by
            intro op' p hp
            rcases List.mem_cons.mp hp with rfl | hp
            · exact Ne.symm hIL
            rcases List.mem_cons.mp hp with rfl | hp
            · exact Ne.symm hID
            rcases List.mem_cons.mp hp with rfl | hp
            · exact Ne.symm hIP
            · exact hIc p hp
          refine store_cell F21 N22 hopne rfl hop (fun h23 op2 F23 N23 hop2 => ?_) rfl rfl
          clear F21 N22
          cases r4 with
          | none =>
            obtain ⟨rfl, rfl⟩ := hO4
            k_steps
            refine TurnK.intro (news' := (s1.heap.objs.size + 1, o3) :: (D, oD3) :: (s1.heap.objs.size + 1 + 1, op2) :: cn) F23 N23 (fun p hp => by
              simp only [List.mem_cons, List.mem_append] at hp ⊢
              rcases hp with h | h | h | h | h <;> simp [h]) hnI2 ⟨⟨mw, md, oD3, op2, _, _, rfl, hop2, hD3, by omega, by omega⟩⟩
          | some l4 =>
            obtain ⟨hl4, a4, us4, rfl, rfl, hS4⟩ := hO4
            cases r3 with
            | none =>
              obtain ⟨rfl, rfl⟩ := hO2
              k_steps
              refine TurnK.intro (news' := (s1.heap.objs.size + 1, o3) :: (D, oD3) :: (s1.heap.objs.size + 1 + 1, op2) :: cn) F23 N23 (fun p hp => by
                simp only [List.mem_cons, List.mem_append] at hp ⊢
                rcases hp with h | h | h | h | h <;> simp [h]) hnI2 ⟨⟨mw, md, oD3, op2, _, _, rfl, hop2, hD3, by omega, by omega⟩⟩
            | some l2 =>
              obtain ⟨hl2, a2, us2, rfl, rfl, hS2⟩ := hO2
              k_steps
              show wpAny _ _ _ _ _ _
              have hll := hS2.length
              refine comp_filter (neg := true) (ax := a2) (b := a4) (cy := s1.heap.objs.size + 1 + 1) (vs := us2) (us := us4) (ss := l2) (ts := l4) (oc := op2) F23 N23 rfl (fun Q' hq => nameX_L F23 (by rfl) hq) (.inl ⟨_, N23.get (o := tupOf (List.toArray us2)) (by simp), rfl, _, rfl⟩) hS2 (by omega) (.head _) hop2 (.inl ⟨_, N23.get (o := tupOf (List.toArray us4)) (by simp), rfl, _, rfl⟩) hS4
                (by rfl) (by rfl) (by decide) rfl (by decide) (by rfl) (fun _ => rfl) (fun _ => rfl) (by decide) (by decide) (by rfl) (fun Df h' tk out2 c' F24 N24 l24 hO => ?_)
              rw [none_left hR2 hR4 hcs3] at hO
              cases hO
              clear F23 N23
              k_steps
              rename Fr _ _ _ _ => F25
              rename News _ _ _ _ => N25
              refine TurnK.intro (news' := (s1.heap.objs.size + 1, o3) :: (D, oD3) :: (s1.heap.objs.size + 1 + 1, op2) :: cn) F25 N25 (fun p hp => by
                simp only [List.mem_cons, List.mem_append] at hp ⊢
                rcases hp with h | h | h | h | h <;> simp [h]) hnI2 ⟨⟨mw, md, oD3, op2, _, _, rfl, hop2, hD3, by omega, by omega⟩⟩
      · rintro m₁ news₁ h tk ⟨mw, md, oD, op, ov, kk, rfl, hop, hDk, hk0, hk1⟩ F5 N5
        k_steps
        done⟩
end
end
end Mine

set_option maxRecDepth 100000 in
set_option maxHeartbeats 8000000 in
theorem PySem.Challenge.cw_nt0016_01_holds : PySem.Challenge.rw_nt0016_01.Holds :=
  Mine.lawH
