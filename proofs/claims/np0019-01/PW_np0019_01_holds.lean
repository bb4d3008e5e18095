import PyProof.Rows.All
import Wide.All
import OpenK.AllK
import Wide.FinOn
import PySem.Challenge.RW_np0019_01
set_option Elab.async false
set_option maxRecDepth 100000
set_option linter.unusedVariables false
set_option linter.unusedSimpArgs false

section
open PySem PySem.W PyProof.Rows
set_option maxHeartbeats 8000000
namespace Mine
/-- the statements of the text that the head keeps -/
def seenP : Program := view PySem.Challenge.pw_np0019_01 [0, 2, 4, 5, 6, 7, 8, 9, 10, 11, 12, 13, 14, 15, 17, 18, 19, 20, 21, 22, 23, 24, 25, 26]
local macro_rules | `(tactic| o_law) => `(tactic| refine holds_law (by decide +kernel) fun said => ?_)
local macro_rules | `(tactic| o_head $H) => `(tactic| (refine holds_open (q := seenP) (loose := []) (Xt := fun s => xlAt seenP [] s && recOk (RowW.records (OpenRow.toRowW PySem.Challenge.rw_np0019_01.row)) s) (XP := XL seenP []) (Yf := Hook.obs $H) (Ya := Hook.val $H) (YP := Hook.says $H) (N := 3266) ?hl (Hook.of $H) (Hook.keeps $H) (fun s e => xl_of s (Bool.and_eq_true_iff.mp e).1) XL.keeps (by rfl) (by rfl) (by rfl) (fun s e => recFacts_of (Bool.and_eq_true_iff.mp e).2) (by rfl) (by first | assumption | decide +kernel) (by decide +kernel) ⟨rfl, rfl, rfl, rfl, rfl, by decide +kernel⟩ ?hw ?hc; (case hl => (intro w; rw [show PySem.Challenge.rw_np0019_01.row.prog = PySem.Challenge.pw_np0019_01 from rfl]; rw [openEnds]; unfold fencedOpening; unfold topFrom; unfold seenP; rw [PySem.W.Fast.te10274390034422433532]; rw [PySem.W.Fast.te1435165496053646825]; rw [PySem.W.Fast.te14289696077712309145]; rw [PySem.W.Fast.te14082659384304107361]; rw [PySem.W.Fast.te8920871248978507458]; rw [PySem.W.Fast.te5923862056798008813]; rw [PySem.W.Fast.te4187177175401517315]; rw [PySem.W.Fast.te14364793385576792824]; kernel_rfl)); all_goals (rename OpenRow.wellSaid _ = true => q8; clear q8)))
open_top hd for PySem.Challenge.rw_np0019_01
end Mine
end

section
local macro_rules | `(tactic| walk_at $s:str) => `(tactic| k_extra $s)
local macro_rules | `(tactic| k_qdec) => `(tactic| decide +kernel)
local macro_rules | `(tactic| row_timed "fresh" ($t)) => do
  let r ← t.raw.rewriteBottomUpM fun s => match s with
    | .ident info raw n pre => do
      let gs ← Lean.Macro.resolveGlobalName n
      let n' ← Lean.Macro.addMacroScope n
      return .ident info raw n' (gs.map (fun g => .decl g.1 g.2) ++ pre)
    | s => return s
  let t' : Lean.TSyntax `Lean.Parser.Tactic.tacticSeq := ⟨r⟩
  `(tactic| ($t'))
local macro_rules | `(tactic| k_ne) => `(tactic| (refine PySem.W.neN ?_; (try dsimp only); first
  | with_reducible assumption
  | (with_reducible apply Ne.symm; with_reducible assumption)
  | ((repeat (with_reducible rename _ ∧ _ => q9; obtain ⟨_, _⟩ := q9)); first
    | with_reducible assumption
    | (with_reducible apply Ne.symm; with_reducible assumption)
    | exact Nat.ne_of_lt (by with_reducible assumption)
    | exact Nat.ne_of_gt (by with_reducible assumption)
    | ((repeat (with_reducible rename _ ≠ _ => q8; clear q8)); omega))
  | omega))

/- BaseA -/
section
open PySem PySem.W PySem.Calls PyProof.Rows
theorem Mine.restBaseA {prog : Program} {w : World} {A : Around} {env : Env} {Q : Flow → Shared → Prop} {E : Value → Shared → Prop} {s : Shared} (h : ∀ f s', Q f s') : wpAny (model prog w) A (execs [] env) Q E s := by
  k_with_none
  w_top off
  walk1
  exact h _ _
end
section
open PySem PySem.W PySem.Calls PyProof.Rows
namespace Mine

/-- the surroundings of a call: the frames, the room -/
abbrev cx (dp un : Nat) (gd : Option (List Code)) (l : List Env) : Around := { handled := none, depth := dp, frames := some l, guards := gd, units := un }

/-- what stands when the objects at D are hidden -/
structure Here (K : Frag) (p : Program) (loose : List Str) (mean : ExcName → Option Value) (mg mb : Str → Option Value) (A : Around) (l : List Env) (D : List Addr) (h : Heap) : Prop where
  base : ∃ b, Below A b l (hideAll h D)
  k : K.In (hideAll h D)
  top : Top p loose mean mg mb (hideAll h D)

/-- all objects but those at D stay -/
def Keep (D : List Addr) (h h' : Heap) : Prop := ∀ b o, h.get? b = some o → b ∉ D → h'.get? b = some o

section
variable {prog : Program} {w : World} {K : Frag} {p : Program} {loose : List Str} {mean : ExcName → Option Value} {mg mb : Str → Option Value} {A : Around} {l : List Env} {s : Shared} {D : List (Addr × Obj)}
  {R : Result → Shared → Prop} {name qual : Str} {params : Arguments} {body : List Stmt} {scope : Scope} {dV kV doc pm cdv ct oc : Value} {an od : Option Addr} {osl : Array (Option Value)} {f : Addr} {args : Args} {binds : List (Str × Value)}

theorem enter (H : Here K p loose mean mg mb A l (D.map (·.1)) s.heap) (ND : ∀ q ∈ D, s.heap.get? q.1 = some q.2)
    (ho : K.lookup f = some ⟨oc, od, .func (fnOf name qual params body scope dV kV doc pm an cdv ct), osl⟩) (hcd : codeIn K cdv qual = true) (hroom : A.depth < recursionLimit)
    (hbind : BindsTo s (fnOf name qual params body scope dV kV doc pm an cdv ct) args binds) (hloc : ∀ y ∈ binds, scope.names.lookup y.1 = some .local)
    (h : ∀ base g L' h₁, (∀ b o, s.heap.get? b = some o → b ∉ D.map (·.1) → g.get? b = some o) → Fr g L' h₁ (fun y => binds.reverse.lookup y) → News g L' h₁ D → Below A base l g → K.In g → Top p loose mean mg mb g →
      (∀ q ∈ D, q.1 < L') → s.heap.objs.size ≤ L' →
      wpAny (model prog w) (A.deeper (envOf qual scope L' f cdv)) (execs body (envOf qual scope L' f cdv))
        (fun fl s' => R (.ok (.ret (match fl with | .ret v => v | _ => .none))) s')
        (fun e s' => wpAny (model prog w) (A.deeper (envOf qual scope L' f cdv)) (leaving (envOf qual scope L' f cdv) e) (fun _ s'' => R (.error e) s'') (fun e' s'' => R (.error e') s'') s')
        { s with heap := h₁, toks := s.toks + binds.length })
    (hco : scope.isCoroutine = false) (hgen : scope.isGenerator = false) (hk : scope.kind = .function)
    (hcell : ∀ x ∈ scope.names, x.2 ≠ .cell) : codeAny (model prog w) A (.call (.ref f) args) R s := by
  obtain ⟨base, B⟩ := H.base
  have st : ∀ b o, (hideAll s.heap (D.map (·.1))).get? b = some o → s.heap.get? b = some o := fun b o => of_hideAll _
  refine codeAny_call_def (fd := fnOf name qual params body scope dV kV doc pm an cdv ct) (body := body) (binds := binds) hroom (st _ _ (H.k _ _ ho)) rfl (H.top.nolimit.keeps st) ((codeRec_of H.k hcd).keeps st) rfl hbind hcell hloc (fun h₁ hns hk₁ => ?_) hco hgen hk
  refine h base (hideAll s.heap (D.map (·.1))) s.heap.objs.size h₁ (fun b o e n => hideAll_get _ e n) ⟨hns, fun b o e => hk₁ b o (of_hideAll _ e), Nat.le_of_eq (hideAll_size _ _)⟩
    (fun q hq => ⟨hk₁ _ _ (ND q hq), Nat.ne_of_lt (Heap.lt_size (ND q hq)), hideAll_none _ (List.mem_map_of_mem hq)⟩) B H.k H.top (fun q hq => Heap.lt_size (ND q hq)) (Nat.le_refl _)

/-- the caller's side: from a frame and its ledger -/
theorem Here.of {A₀ : Around} {base h₀ : Heap} {outer : List Env} {L : Addr} {m : Str → Option Value} {env : Env} {h : Heap}
    (B : Below A₀ base outer h₀) (F : Fr h₀ L h m) (X : K.In h₀) (N : News h₀ L h D) (T : Top p loose mean mg mb h₀) (hA : A.frames = some (env :: outer)) (hf : env.frame = some L) (hke : env.scope.kind = .function) :
    Here K p loose mean mg mb A (env :: outer) (D.map (·.1)) h := by
  obtain ⟨FG, BG, st, _⟩ := groundX (s := { heap := h }) (R := fun _ _ => True) B F N hA hf hke
  exact ⟨⟨base, BG⟩, X.keeps st, T.keeps st⟩
end

theorem Keep.fr {D : List Addr} {h₀ h h' : Heap} {L : Addr} {m : Str → Option Value} (k : Keep D h h') (F : Fr h₀ L h m) (hL : L ∉ D) (h0 : ∀ a ∈ D, h₀.get? a = none) : Fr h₀ L h' m := by
  obtain ⟨oL, es, ep, hLg, r⟩ := F.ns
  refine ⟨⟨oL, es, ep, k _ _ hLg hL, r⟩, fun b o e => k _ _ (F.keep b o e) fun q => ?_, F.above⟩
  have := h0 _ q; rw [e] at this; cases this

end Mine
end

/- Draw -/
section
open PySem PySem.W PySem.Calls PyProof.Rows
theorem Mine.restDraw {prog : Program} {w : World} {A : Around} {env : Env} {Q : Flow → Shared → Prop} {E : Value → Shared → Prop} {s : Shared} (h : ∀ f s', Q f s') : wpAny (model prog w) A (execs [] env) Q E s := by
  k_with_none
  w_top off
  walk1
  exact h _ _
end
section
open PySem PySem.W PySem.Calls PyProof.Rows
namespace Mine
theorem fill : ∀ P : Params, hd.heap_1 P = hd.heap_1 P → PySem.Challenge.rw_np0019_01 = PySem.Challenge.rw_np0019_01 → True := by
  k_fill
  intros; trivial

theorem fmod_lt {a b : Int} (h : 0 < b) : a.fmod b < b := Int.fmod_lt_of_pos _ h
theorem fmod_nn {a b : Int} (h : 0 < b) : 0 ≤ a.fmod b := Int.fmod_nonneg_of_pos _ h
section
variable {prog : Program} {w : World} {A : Around} {E : Value → Shared → Prop} {s : Shared} {h₀ h : Heap} {L D : Addr} {m : Str → Option Value} {news news' : List (Addr × Obj)} {n : Nat}
theorem pop0 {u : Tok} {x : Value} {vs : List Value} {Q : Value → Shared → Prop} (F : Fr h₀ L s.heap m) (N : News h₀ L s.heap news) (U : Upd D (W.listOf (x :: vs).toArray n) (W.listOf vs.toArray (n + 1)) news news')
    (hz : (x :: vs).length ≤ sizeLine) (h : ∀ h', Fr h₀ L h' m → News h₀ L h' news' → Q x { s with heap := h' }) : wpAny (model prog w) A (call (.builtin "list.pop") [.ref D, .int 0 u]) Q E s :=
  kl_popAt (k := 0) (p := []) F N rfl (by simp [seqIndex?]) rfl U hz h
end
theorem ln1 : True := by
  k_with "call builtin:list.pop" => row_timed "fresh" ((k_here; (with_reducible show wpAny _ _ (call (Value.builtin _) [Value.ref _, Value.int 0 _]) _ _ _); k_dflt (refine' pop0 ?F ?N ?U ?z ?_; (case F => k_asm); (case N => k_asm); (case U => k_upd); (case z => (rw [sizeLine_eq]; simp only [List.length_cons] at *; omega)); k_whole); intro h' F' N'))
  trivial
set_option maxHeartbeats 8000000 in
set_option pp.maxSteps 8000 in
theorem draw_spec {prog : Program} {w : World} {p : Program} {loose : List Str} {mean : ExcName → Option Value} {mg mb : Str → Option Value} {dp un : Nat} {gd : Option (List Code)} {l : List Env} {s : Shared}
    {dk d0 : Addr} {vs : List Value} {ns : List Int} {n1 n2 many : Int} {t1 t2 tm : Tok} {e1 e2 : Nat} {Q E : Value → Shared → Prop}
    (H : Here (hd.heap_1 w.params) p loose mean mg mb (cx dp un gd l) l [dk, d0] s.heap)
    (hdk : s.heap.get? dk = some (listOf #[.ref d0, .int n1 t1, .int n2 t2] e1)) (hd0 : s.heap.get? d0 = some (listOf vs.toArray e2)) (hi : IntsAre vs ns) (hne : dk ≠ d0)
    (hdp : dp + 20 < 1000) (hun : un + 100 < 9900) (hm : 0 < many) (hm2 : many < 1000) (hlen : vs.length ≤ 100)
    (ret : ∀ h' tk r tr vs' ns' n2' t2' e1' e2', Keep [dk, d0] s.heap h' → h'.get? dk = some (listOf #[.ref d0, .int n1 t1, .int n2' t2'] e1') → h'.get? d0 = some (listOf vs'.toArray e2') → IntsAre vs' ns' →
      vs'.length ≤ vs.length → 0 ≤ r → r < many → Q (.int r tr) { s with heap := h', toks := tk }) :
    wpAny (model prog w) (cx dp un gd l) (call (.ref 197) [.ref dk, .int many tm]) Q E s := by
  refine wpAny_call ?_
  k_dflt (refine' enter (K := hd.heap_1 w.params) (p := p) (loose := loose) (mean := mean) (mg := mg) (mb := mb) (l := l) (binds := [((PySem.Str.ofString "deck"), .ref dk), ((PySem.Str.ofString "many"), .int many tm)]) (D := [(dk, listOf #[.ref d0, .int n1 t1, .int n2 t2] e1), (d0, listOf vs.toArray e2)]) ?H ?ND ?ho ?hcd ?hroom ?hbind ?hloc ?_ ?c2 ?c3 ?c4 ?c5; (case H => exact H); (case ho => k_is); (case hcd => k_is); (case hroom => (show dp < 1000; omega)); (case hbind => exact BindsTo.of_eq rfl); (case hloc => exact locs rfl); (case c2 => exact rfl); (case c3 => exact rfl); (case c4 => exact rfl); (case c5 => decide); k_whole)
  case ND => 
    intro q hq
    simp only [List.mem_cons, List.not_mem_nil, or_false] at hq
    rcases hq with rfl | rfl
    · exact hdk
    · exact hd0
  intro base g L' h₁ keep F' N' B' X' T' lt' sz'
  replace hne := neN hne
  k_lt lt'
  dsimp only
  try k_fold
  cases hi with
  | nil =>
    try k_fold
    k_steps
    all_goals (try dsimp only)
    all_goals (rename Fr _ _ _ _ => FF; rename News _ _ _ _ => NN)
    all_goals exact ret _ _ _ _ _ _ _ _ _ _ (fun b o e n => FF.keep b o (keep b o e n)) (NN.get (by k_mem)) (NN.get (by k_mem)) .nil (Nat.le_refl _) (fmod_nn hm) (fmod_lt hm)
  | cons n t hi =>
    try k_fold
    k_steps
    all_goals (try dsimp only)
    all_goals (rename Fr _ _ _ _ => FF; rename News _ _ _ _ => NN)
    all_goals first
      | (exfalso; (rename decide (_ :: _ = []) = true => hx); simp at hx; done)
      | exact ret _ _ _ _ _ _ _ _ _ _ (fun b o e n => FF.keep b o (keep b o e n)) (NN.get (by k_mem)) (NN.get (by k_mem)) (.cons _ _ hi) (by simp) (fmod_nn hm) (fmod_lt hm)
      | exact ret _ _ _ _ _ _ _ _ _ _ (fun b o e n => FF.keep b o (keep b o e n)) (NN.get (by k_mem)) (NN.get (by k_mem)) hi (Nat.le_succ _) (fmod_nn hm) (fmod_lt hm)
end Mine
end

/- BaseB -/
section
open PySem PySem.W PySem.Calls PyProof.Rows
theorem Mine.restBaseB {prog : Program} {w : World} {A : Around} {env : Env} {Q : Flow → Shared → Prop} {E : Value → Shared → Prop} {s : Shared} (h : ∀ f s', Q f s') : wpAny (model prog w) A (execs [] env) Q E s := by
  k_with_none
  w_top off
  walk1
  exact h _ _
end
section
open PySem PySem.W PySem.Calls PyProof.Rows
namespace Mine

theorem Keep.news {D : List Addr} {h₀ h h' : Heap} {L : Addr} {news : List (Addr × Obj)} (k : Keep D h h') (N : News h₀ L h news) (hn : ∀ q ∈ news, q.1 ∉ D) : News h₀ L h' news :=
  fun q hq => ⟨k _ _ (N q hq).1 (hn q hq), (N q hq).2⟩

section
variable {h₀ h h' : Heap} {L dk d0 : Addr} {m : Str → Option Value} {news : List (Addr × Obj)} {o o0 o' o0' : Obj} {f : Obj → List (Addr × Obj)} {f2 : Obj → Obj → List (Addr × Obj)}

/-- the caller's frame and ledger behind a call that turns dk and d0 alone -/
theorem back (F : Fr h₀ L h m) (N : News h₀ L h news) (U : UpdF dk o news f) (U2 : ∀ x, UpdF d0 o0 (f x) (f2 x)) (hne : dk ≠ d0)
    (k : Keep [dk, d0] h h') (e1 : h'.get? dk = some o') (e2 : h'.get? d0 = some o0') : Fr h₀ L h' m ∧ News h₀ L h' (f2 o' o0') := by
  obtain ⟨pre, post, en, ef, a, b⟩ := U.split
  obtain ⟨pre2, post2, en2, ef2, a2, b2⟩ := (U2 o').split
  have n1 : News h₀ L h [(dk, o)] := fun q hq => N q (by rw [en]; exact List.mem_append.mpr (.inr (by cases hq with | head => exact .head _ | tail _ h => cases h)))
  have q1 := n1 _ (.head _)
  have m0 : (d0, o0) ∈ pre ++ (dk, o) :: post := by
    have : (d0, o0) ∈ f o' := by rw [en2]; exact List.mem_append.mpr (.inr (.head _))
    rw [ef] at this
    rcases List.mem_append.mp this with h1 | h1
    · exact List.mem_append_left _ h1
    · rcases List.mem_cons.mp h1 with h2 | h2
      · exact absurd (congrArg Prod.fst h2).symm hne
      · exact List.mem_append_right _ (.tail _ h2)
  have q2 := N (d0, o0) (by rw [en]; exact m0)
  refine ⟨k.fr F ?_ ?_, ?_⟩
  · simp only [List.mem_cons, List.not_mem_nil, or_false, not_or]
    exact ⟨Ne.symm q1.2.1, Ne.symm q2.2.1⟩
  · intro x hx
    simp only [List.mem_cons, List.not_mem_nil, or_false] at hx
    rcases hx with rfl | rfl
    · exact q1.2.2
    · exact q2.2.2
  · intro q hq
    have other : ∀ q, q ∈ f o' → q.1 ≠ d0 → h'.get? q.1 = some q.2 ∧ q.1 ≠ L ∧ h₀.get? q.1 = none := by
      intro q hq hn
      rw [ef] at hq
      have away : q ∈ news → q.1 ≠ dk → h'.get? q.1 = some q.2 ∧ q.1 ≠ L ∧ h₀.get? q.1 = none := fun hm hd =>
        ⟨k _ _ (N q hm).1 (by simp only [List.mem_cons, List.not_mem_nil, or_false, not_or]; exact ⟨hd, hn⟩), (N q hm).2⟩
      rcases List.mem_append.mp hq with h1 | h1
      · exact away (by rw [en]; exact List.mem_append_left _ h1) (a q h1)
      · rcases List.mem_cons.mp h1 with rfl | h2
        · exact ⟨e1, q1.2⟩
        · exact away (by rw [en]; exact List.mem_append_right _ (.tail _ h2)) (b q h2)
    rw [ef2] at hq
    rcases List.mem_append.mp hq with h1 | h1
    · exact other q (by rw [en2]; exact List.mem_append_left _ h1) (a2 q h1)
    · rcases List.mem_cons.mp h1 with rfl | h2
      · exact ⟨e2, q2.2⟩
      · exact other q (by rw [en2]; exact List.mem_append_right _ (.tail _ h2)) (b2 q h2)

/-- the sub-ledger of the deck -/
theorem deck_sub (N : News h₀ L h news) (U : UpdF dk o news f) (U2 : ∀ x, UpdF d0 o0 (f x) (f2 x)) (hne : dk ≠ d0) : News h₀ L h [(dk, o), (d0, o0)] := by
  obtain ⟨pre, post, en, ef, a, b⟩ := U.split
  obtain ⟨pre2, post2, en2, ef2, a2, b2⟩ := (U2 o).split
  have m0 : (d0, o0) ∈ news := by
    have : (d0, o0) ∈ f o := by rw [en2]; exact List.mem_append.mpr (.inr (.head _))
    rw [ef, ← en] at this
    exact this
  intro q hq
  rcases List.mem_cons.mp hq with rfl | hq
  · exact N _ (by rw [en]; exact List.mem_append.mpr (.inr (.head _)))
  · rcases List.mem_cons.mp hq with rfl | hq
    · exact N _ m0
    · cases hq

/-- an object made meanwhile joins the ledger -/
theorem join {a : Addr} {ob : Obj} (F : Fr h₀ L h m) (N' : News h₀ L h' news) (hs : h.get? a = none) (e : h'.get? a = some ob) : News h₀ L h' ((a, ob) :: news) := by
  intro q hq
  rcases List.mem_cons.mp hq with rfl | hq
  · refine ⟨e, fun z => ?_, ?_⟩
    · obtain ⟨oL, _, _, hL, _⟩ := F.ns
      have z' : a = L := z
      rw [z', hL] at hs; cases hs
    · cases e' : h₀.get? a with
      | none => rfl
      | some x => rw [F.keep _ _ e'] at hs; cases hs
  · exact N' q hq
/-- it is none of the ledger's -/
theorem off_of {a : Addr} (N : News h₀ L h news) (hs : h.get? a = none) : LCg.Off1 a news := by
  induction news with
  | nil => trivial
  | cons q r ih => exact ⟨fun z => (by have := (N q (.head _)).1; rw [z, hs] at this; cases this), ih fun x hx => N x (.tail _ hx)⟩
/-- what is not of the ground and not hidden is new -/
theorem fresh_of {D : List Addr} {s g : Heap} {a : Addr} (keep : ∀ b o, s.get? b = some o → b ∉ D → g.get? b = some o) (hg : g.get? a = none) (hD : a ∉ D) : s.get? a = none := by
  cases e : s.get? a with
  | none => rfl
  | some o => rw [keep _ _ e hD] at hg; cases hg
theorem News.new {a : Addr} {ob : Obj} (N : News h₀ L h news) (hm : (a, ob) ∈ news) : h₀.get? a = none := (N _ hm).2.2
end

section
variable {prog : Program} {w : World} {K : Frag} {p : Program} {loose : List Str} {mean : ExcName → Option Value} {mg mb : Str → Option Value} {A : Around} {l : List Env} {s : Shared} {D : List (Addr × Obj)}
  {R : Result → Shared → Prop} {name qual : Str} {params : Arguments} {body : List Stmt} {scope : Scope} {dV kV doc pm cdv ct oc : Value} {an od : Option Addr} {osl : Array (Option Value)} {f : Addr} {args : Args} {binds : List (Str × Value)}

/-- as enter, for a def some of whose locals are captured -/
theorem enterC (H : Here K p loose mean mg mb A l (D.map (·.1)) s.heap) (ND : ∀ q ∈ D, s.heap.get? q.1 = some q.2)
    (ho : K.lookup f = some ⟨oc, od, .func (fnOf name qual params body scope dV kV doc pm an cdv ct), osl⟩) (hcd : codeIn K cdv qual = true) (hroom : A.depth < recursionLimit)
    (hbind : BindsTo s (fnOf name qual params body scope dV kV doc pm an cdv ct) args binds) (hkind : (binds.all fun y => scope.names.lookup y.1 == some .local || scope.names.lookup y.1 == some .cell) = true)
    (hnd : ((cellsFrom 0 scope.names []).map (·.1)).Nodup)
    (h : ∀ base g L' h₁ tk cells, (∀ b o, s.heap.get? b = some o → b ∉ D.map (·.1) → g.get? b = some o) → Fr g L' h₁ (bindL (envOfC qual scope L' f cdv).kindOf binds fun _ => none) → News g L' h₁ (cells ++ D) →
      CellsAre (bindC (envOfC qual scope L' f cdv).kindOf binds fun _ => none) (cellsFrom (L' + 1) scope.names []) cells → Below A base l g → K.In g → Top p loose mean mg mb g → (∀ q ∈ D, q.1 < L') → s.heap.objs.size ≤ L' →
      wpAny (model prog w) (A.deeper (envOfC qual scope L' f cdv)) (execs body (envOfC qual scope L' f cdv))
        (fun fl s' => R (.ok (.ret (match fl with | .ret v => v | _ => .none))) s')
        (fun e s' => wpAny (model prog w) (A.deeper (envOfC qual scope L' f cdv)) (leaving (envOfC qual scope L' f cdv) e) (fun _ s'' => R (.error e) s'') (fun e' s'' => R (.error e') s'') s')
        { s with heap := h₁, toks := tk })
    (hco : scope.isCoroutine = false) (hgen : scope.isGenerator = false) (hk : scope.kind = .function) : codeAny (model prog w) A (.call (.ref f) args) R s := by
  obtain ⟨base, B⟩ := H.base
  have st : ∀ b o, (hideAll s.heap (D.map (·.1))).get? b = some o → s.heap.get? b = some o := fun b o => of_hideAll _
  refine codeAny_call_function (fd := fnOf name qual params body scope dV kV doc pm an cdv ct) hroom (st _ _ (H.k _ _ ho)) rfl hco hgen rfl ((codeRec_of H.k hcd).keeps st) (hbind _ _ _ _ ?_)
  refine wpAny_newFunctionEnv_cells hk (kindsX hkind _) fun env' he s' x => ?_
  subst he
  refine ⟨(H.top.nolimit.keeps st).keeps x.toInCall.keep, codeAny_func ?_⟩
  obtain ⟨h₁, tk, rfl, _⟩ := x.done
  have hk₁ := x.toInCall.keep
  obtain ⟨cells, NC, Y⟩ := Cl.news (h₀ := s.heap) (Nat.le_refl _) fun n c hm => ⟨x.cell n c (lookup_of_mem_nodup (cellsFrom_names scope.names 0 (s.heap.objs.size + 1) [] [] rfl ▸ hnd) hm), x.above n c hm⟩
  refine h base (hideAll s.heap (D.map (·.1))) s.heap.objs.size h₁ tk cells (fun b o e n => hideAll_get _ e n) ⟨x.toInCall.ns, fun b o e => hk₁ b o (of_hideAll _ e), Nat.le_of_eq (hideAll_size _ _)⟩ (fun p hp => ?_) Y B H.k H.top (fun q hq => Heap.lt_size (ND q hq)) (Nat.le_refl _)
  rcases List.mem_append.mp hp with hp | hp
  · refine ⟨(NC p hp).1, (NC p hp).2.1, ?_⟩
    cases q : (hideAll s.heap (D.map (·.1))).get? p.1 with
    | none => rfl
    | some o => have := of_hideAll _ q; rw [(NC p hp).2.2] at this; cases this
  · exact ⟨hk₁ _ _ (ND p hp), Nat.ne_of_lt (Heap.lt_size (ND p hp)), hideAll_none _ (List.mem_map_of_mem hp)⟩
end

/-- the deck's two objects -/
def Deck (d0 : Addr) (o o0 : Obj) : Prop := ∃ n1 t1 n2 t2 e1 e2 vs ns, o = W.listOf #[.ref d0, .int n1 t1, .int n2 t2] e1 ∧ o0 = W.listOf (vs : List Value).toArray e2 ∧ IntsAre vs ns ∧ vs.length ≤ 100

section
variable {prog : Program} {w : World} {p : Program} {loose : List Str} {mean : ExcName → Option Value} {mg mb : Str → Option Value} {dp un : Nat} {gd : Option (List Code)} {l : List Env} {s : Shared} {dk d0 : Addr} {many : Int} {tm : Tok} {o o0 : Obj} {Q E : Value → Shared → Prop}

theorem drawD (H : Here (hd.heap_1 w.params) p loose mean mg mb (cx dp un gd l) l [dk, d0] s.heap) (hdk : s.heap.get? dk = some o) (hd0 : s.heap.get? d0 = some o0) (hD : Deck d0 o o0) (hne : dk ≠ d0)
    (hdp : dp + 20 < 1000) (hun : un + 100 < 9900) (hm : 0 < many) (hm2 : many < 1000)
    (ret : ∀ h' tk r tr o' o0', Keep [dk, d0] s.heap h' → h'.get? dk = some o' → h'.get? d0 = some o0' → Deck d0 o' o0' → 0 ≤ r → r < many → Q (.int r tr) { s with heap := h', toks := tk }) :
    wpAny (model prog w) (cx dp un gd l) (call (.ref 197) [.ref dk, .int many tm]) Q E s := by
  obtain ⟨n1, t1, n2, t2, e1, e2, vs, ns, rfl, rfl, hi, hl⟩ := hD
  exact draw_spec H hdk hd0 hi hne hdp hun hm hm2 hl fun h' tk r tr vs' ns' n2' t2' e1' e2' k g1 g2 i' l' r0 r1 =>
    ret h' tk r tr _ _ k g1 g2 ⟨_, _, _, _, _, _, _, _, rfl, rfl, i', Nat.le_trans l' hl⟩ r0 r1

theorem draw_call {cn : Str} {cs : Scope} {L a : Addr} {ccd : Value} {cl : List (Str × Addr)} {outer : List Env} {A₀ : Around} {base h₀ : Heap} {m : Str → Option Value} {news : List (Addr × Obj)} {f : Obj → List (Addr × Obj)} {f2 : Obj → Obj → List (Addr × Obj)}
    (B : Below A₀ base outer h₀) (F : Fr h₀ L s.heap m) (X : (hd.heap_1 w.params).In h₀) (N : News h₀ L s.heap news) (T : Top p loose mean mg mb h₀) (hk : cs.kind = .function)
    (hD : Deck d0 o o0) (hne : dk ≠ d0) (U : UpdF dk o news f) (U2 : ∀ x, UpdF d0 o0 (f x) (f2 x)) (hdp : dp + 20 < 1000) (hun : un + 100 < 9900) (hm : 0 < many) (hm2 : many < 1000)
    (ret : ∀ h' tk r tr o' o0', Fr h₀ L h' m → News h₀ L h' (f2 o' o0') → Deck d0 o' o0' → 0 ≤ r → r < many → Q (.int r tr) { s with heap := h', toks := tk }) :
    wpAny (model prog w) (ktrTop dp un gd cn cs L a ccd cl outer) (call (.ref 197) [.ref dk, .int many tm]) Q E s := by
  have ND := deck_sub N U U2 hne
  refine drawD (H := Here.of (D := [(dk, o), (d0, o0)]) (A := ktrTop dp un gd cn cs L a ccd cl outer) B F X ND T rfl rfl hk) (ND _ (.head _)).1 (ND _ (.tail _ (.head _))).1 hD hne hdp hun hm hm2 ?_
  intro h' tk r tr o' o0' k g1 g2 hD' r0 r1
  obtain ⟨F', N'⟩ := back F N U U2 hne k g1 g2
  exact ret h' tk r tr o' o0' F' N' hD' r0 r1
end
end Mine
end

/- Comp -/
section
open PySem PySem.W PySem.Calls PyProof.Rows
theorem Mine.restComp {prog : Program} {w : World} {A : Around} {env : Env} {Q : Flow → Shared → Prop} {E : Value → Shared → Prop} {s : Shared} (h : ∀ f s', Q f s') : wpAny (model prog w) A (execs [] env) Q E s := by
  k_with_none
  w_top off
  walk1
  exact h _ _
end
section
open PySem PySem.W PySem.Calls PyProof.Rows PyProof.Rows.LCg PyProof.Rows.LCt
namespace Mine

theorem signs_st {h₀ : Heap} {L I : Addr} {X : Str} {t : Tok} : ∀ i (h h' : Heap) (o : Obj) (nw : List (Addr × Obj)), h.IsStrIter I "str_ascii_iterator" X t i → h.get? I = some o → h'.get? I = some o → (∀ b o, h₀.get? b = some o → h'.get? b = some o) → News h₀ L h' nw → True →
    h'.IsStrIter I "str_ascii_iterator" X t i :=
  fun i h h' o nw st e e' _ _ _ => by
    obtain ⟨o', q, r⟩ := st
    rw [e] at q; cases q
    exact ⟨o, e', r⟩

section
variable {prog : Program} {w : World} {A : Around} {E : Value → Shared → Prop} {s : Shared} {h₀ : Heap} {L : Addr} {m : Str → Option Value} {env : Env} {ct elt iter : PySem.Expr} {x : Str} {px : Pos} {scope : Scope} {cl : List (Str × Addr)} {pos : Pos}

/-- the source of a comprehension with a test is a text of plain signs -/
def SignsT (prog : Program) (w : World) (A : Around) (h₀ : Heap) (L : Addr) (m : Str → Option Value) (env : Env) (ct elt : PySem.Expr) (x : Str) (scope : Scope) (cl : List (Str × Addr)) (Fin : Shared → List Value → List (Addr × Obj) → Prop) (xv : Value) (s₁ : Shared) : Prop :=
  ∃ X t news, xv = .str X t ∧ X.cps.all (· < 128) = true ∧ A.handled = none ∧ Fr h₀ L s₁.heap m ∧ News h₀ L s₁.heap news ∧ X.cps.size ≤ sizeLine ∧
    ∀ s₂ : Shared, (∃ h, s₂ = { s₁ with heap := h }) → CompRestT prog w A h₀ L m env ct elt x scope cl s₂ (fun _ => True) (SignAt X) (Fin s₂) X.cps.size 0 [] news
def SignsU (prog : Program) (w : World) (A : Around) (h₀ : Heap) (L : Addr) (m : Str → Option Value) (env : Env) (elt : PySem.Expr) (x : Str) (scope : Scope) (cl : List (Str × Addr)) (Fin : Shared → List Value → List (Addr × Obj) → Prop) (xv : Value) (s₁ : Shared) : Prop :=
  ∃ X t news, xv = .str X t ∧ X.cps.all (· < 128) = true ∧ A.handled = none ∧ Fr h₀ L s₁.heap m ∧ News h₀ L s₁.heap news ∧ X.cps.size ≤ sizeLine ∧
    ∀ s₂ : Shared, (∃ h, s₂ = { s₁ with heap := h }) → CompRest prog w A h₀ L m env elt x scope cl s₂ (fun _ => True) (SignAt X) (Fin s₂) X.cps.size 0 [] news

theorem ListComp_ST {Q : Value → Shared → Prop} (F₀ : Fr h₀ L s.heap m)
    (hclos : closureFor scope env = pure cl) (hcell : ∀ y ∈ scope.names, y.2 ≠ .cell) (hkind : scope.kind = .function)
    (hnames : ∀ y ∈ scope.names, y.2 = .local → scope.names.lookup y.1 = some .local) (hx : scope.names.lookup x = some .local)
    (h : wpAny (model prog w) A (eval iter env) (SignsT prog w A h₀ L m env ct elt x scope cl (fun s₂ => FinE h₀ L m s₂ Q)) E s)
    (hs : ∀ x, foldedSetIterable iter env x = pure x := by intro _; rfl) :
    wpAny (model prog w) A (eval (.ListComp elt [⟨.Name x px, iter, [ct], 0⟩] scope pos) env) Q E s := by
  rw [eval_ListComp]
  refine wpAny_comprehension_free (use := none) rfl hs hclos hkind hnames (wpAny_mono h (fun xv s₁ h₁ => ?_) fun _ _ e => e)
  obtain ⟨X, t, news, rfl, ha, hh, F, N, hsz, R⟩ := h₁
  refine wpAny_pyIter_ascii ha ?_
  refine block_T (Walks.strAscii hh s₁.heap.objs.size X t) hsz (fun i h st => ⟨_, st.choose_spec.1⟩) signs_st hcell hkind hx ⟨_, Heap.get?_push_size _ rfl, rfl, rfl⟩ (fun b hb => ?_)
    (F.keeps fun _ _ e => Heap.get?_push_of_some _ e) (N.grown fun _ _ e => Heap.get?_push_of_some _ e) (Nat.ne_of_lt F.ns.lt) (next_is_new F) (fun p hp => Nat.ne_of_lt (Heap.lt_size (N p hp).1)) trivial (R _ ⟨_, rfl⟩) ?_
  · rw [List.mem_singleton.mp hb]
    show s₁.heap.objs.size < (s₁.heap.push _).objs.size
    rw [Heap.size_push]; exact Nat.lt_succ_self _
  · intro D C h tk m' ys news' F' N' o1 hn hC₀ hD₀ hCL hDL hCD offC fin
    refine ⟨m', hn, fun h'' hs'' => fin D h'' tk (F'.change hs'' hCL hC₀) (fun p hp => ?_) o1⟩
    refine ⟨hs''.extBut _ _ ?_ (N' p hp).1, (N' p hp).2⟩
    rcases List.mem_cons.mp hp with rfl | hp
    · exact Ne.symm hCD
    · exact offC p hp

theorem ListComp_SU {Q : Value → Shared → Prop} (F₀ : Fr h₀ L s.heap m)
    (hclos : closureFor scope env = pure cl) (hcell : ∀ y ∈ scope.names, y.2 ≠ .cell) (hkind : scope.kind = .function)
    (hnames : ∀ y ∈ scope.names, y.2 = .local → scope.names.lookup y.1 = some .local) (hx : scope.names.lookup x = some .local)
    (h : wpAny (model prog w) A (eval iter env) (SignsU prog w A h₀ L m env elt x scope cl (fun s₂ => FinE h₀ L m s₂ Q)) E s)
    (hs : ∀ x, foldedSetIterable iter env x = pure x := by intro _; rfl) :
    wpAny (model prog w) A (eval (.ListComp elt [⟨.Name x px, iter, [], 0⟩] scope pos) env) Q E s := by
  rw [eval_ListComp]
  refine wpAny_comprehension_free (use := none) rfl hs hclos hkind hnames (wpAny_mono h (fun xv s₁ h₁ => ?_) fun _ _ e => e)
  obtain ⟨X, t, news, rfl, ha, hh, F, N, hsz, R⟩ := h₁
  refine wpAny_pyIter_ascii ha ?_
  refine block_U (Walks.strAscii hh s₁.heap.objs.size X t) hsz (fun i h st => ⟨_, st.choose_spec.1⟩) signs_st hcell hkind hx ⟨_, Heap.get?_push_size _ rfl, rfl, rfl⟩ (fun b hb => ?_)
    (F.keeps fun _ _ e => Heap.get?_push_of_some _ e) (N.grown fun _ _ e => Heap.get?_push_of_some _ e) (Nat.ne_of_lt F.ns.lt) (next_is_new F) (fun p hp => Nat.ne_of_lt (Heap.lt_size (N p hp).1)) trivial (R _ ⟨_, rfl⟩) ?_
  · rw [List.mem_singleton.mp hb]
    show s₁.heap.objs.size < (s₁.heap.push _).objs.size
    rw [Heap.size_push]; exact Nat.lt_succ_self _
  · intro D C h tk m' ys news' F' N' o1 hn hC₀ hD₀ hCL hDL hCD offC fin
    refine ⟨m', hn, fun h'' hs'' => fin D h'' tk (F'.change hs'' hCL hC₀) (fun p hp => ?_) o1⟩
    refine ⟨hs''.extBut _ _ ?_ (N' p hp).1, (N' p hp).2⟩
    rcases List.mem_cons.mp hp with rfl | hp
    · exact Ne.symm hCD
    · exact offC p hp

theorem CompEnd.mono {s₁ s₂ : Shared} {I C D : Addr} {oI oC oD : Obj} {S : List (Addr × Obj) → Prop} {r r' : Value → List (Addr × Obj) → Prop} {y : Value} (h : CompEnd h₀ L m s₁ I oI C oC D oD S r y s₂) (hr : ∀ y n, r y n → r' y n) : CompEnd h₀ L m s₁ I oI C oC D oD S r' y s₂ :=
  let ⟨h', tk, nw, a, b, c, d, e, f⟩ := h; ⟨h', tk, nw, a, b, c, d, e, hr _ _ f⟩

/-- the turns by an invariant -/
theorem turnsT {S : List (Addr × Obj) → Prop} {P : Nat → Value → Prop} {Fin : List Value → List (Addr × Obj) → Prop} {n : Nat} (J : Nat → List Value → List (Addr × Obj) → Prop)
    (turn : ∀ i ys news v I oI C oC D m₂ h tk (E' : Value → Shared → Prop), i < n → J i ys news → P i v → NsObj oC m₂ → m₂ x = some v → Fr h₀ L h m → News h₀ L h ((I, oI) :: (C, oC) :: (D, lst ys) :: news) → Off3 I C D news → ((@Ne Nat I C) ∧ (@Ne Nat I D) ∧ (@Ne Nat C D)) →
      wpAny (model prog w) A (isTrue ct (compEnvC scope cl C env) (eval ct (compEnvC scope cl C env))) (fun ok s' => if ok = true then
        wpAny (model prog w) A (eval elt (compEnvC scope cl C env)) (CompEnd h₀ L m { s with heap := h, toks := tk } I oI C oC D (lst ys) S (fun y news' => J (i + 1) (ys ++ [y]) news')) E' s'
        else CompEnd h₀ L m { s with heap := h, toks := tk } I oI C oC D (lst ys) S (fun _ news' => J (i + 1) ys news') Value.none s') E' { s with heap := h, toks := tk })
    (fin : ∀ ys news, J n ys news → Fin ys news) : ∀ k i ys news, i + k = n → J i ys news → CompRestT prog w A h₀ L m env ct elt x scope cl s S P Fin k i ys news := by
  intro k
  induction k with
  | zero => intro i ys news e j; exact CompRestT.zero (fin _ _ (by rw [← e]; exact j))
  | succ k ih =>
    intro i ys news e j
    refine CompRestT.succ fun v I oI C oC D m₂ h tk E' hP hC hx F N off ne => ?_
    refine wpAny_mono (turn i ys news v I oI C oC D m₂ h tk E' (by omega) j hP hC hx F N off ne) (fun ok s' hq => ?_) fun _ _ z => z
    cases ok with
    | true =>
      simp only [if_true] at hq ⊢
      exact wpAny_mono hq (fun y s'' z => CompEnd.mono z fun y n jn => ih (i + 1) _ _ (by omega) jn) fun _ _ z => z
    | false =>
      simp only [Bool.false_eq_true, if_false] at hq ⊢
      exact CompEnd.mono hq fun y n jn => ih (i + 1) _ _ (by omega) jn
theorem turnsU {S : List (Addr × Obj) → Prop} {P : Nat → Value → Prop} {Fin : List Value → List (Addr × Obj) → Prop} {n : Nat} (J : Nat → List Value → List (Addr × Obj) → Prop)
    (turn : ∀ i ys news v I oI C oC D m₂ h tk (E' : Value → Shared → Prop), i < n → J i ys news → P i v → NsObj oC m₂ → m₂ x = some v → Fr h₀ L h m → News h₀ L h ((I, oI) :: (C, oC) :: (D, lst ys) :: news) → Off3 I C D news → ((@Ne Nat I C) ∧ (@Ne Nat I D) ∧ (@Ne Nat C D)) →
      wpAny (model prog w) A (eval elt (compEnvC scope cl C env)) (CompEnd h₀ L m { s with heap := h, toks := tk } I oI C oC D (lst ys) S (fun y news' => J (i + 1) (ys ++ [y]) news')) E' { s with heap := h, toks := tk })
    (fin : ∀ ys news, J n ys news → Fin ys news) : ∀ k i ys news, i + k = n → J i ys news → CompRest prog w A h₀ L m env elt x scope cl s S P Fin k i ys news := by
  intro k
  induction k with
  | zero => intro i ys news e j; exact CompRest.zero (fin _ _ (by rw [← e]; exact j))
  | succ k ih =>
    intro i ys news e j
    refine CompRest.succ fun v I oI C oC D m₂ h tk E' hP hC hx F N off ne => ?_
    exact wpAny_mono (turn i ys news v I oI C oC D m₂ h tk E' (by omega) j hP hC hx F N off ne) (fun y s'' z => CompEnd.mono z fun y n jn => ih (i + 1) _ _ (by omega) jn) fun _ _ z => z
end
end Mine
end

/- Plain -/
section
open PySem PySem.W PySem.Calls PyProof.Rows
theorem Mine.restPlain {prog : Program} {w : World} {A : Around} {env : Env} {Q : Flow → Shared → Prop} {E : Value → Shared → Prop} {s : Shared} (h : ∀ f s', Q f s') : wpAny (model prog w) A (execs [] env) Q E s := by
  k_with_none
  w_top off
  walk1
  exact h _ _
end
section
open PySem PySem.W PySem.Calls PyProof.Rows
namespace Mine

/-- the signs of the kinds that the law draws, the signs of the flags -/
def KC : List Nat := [32, 119, 95, 46, 40, 41, 39, 34, 92, 47, 36, 60, 62, 33, 124]
def FC : List Nat := [49, 50, 51, 52, 98, 99, 110, 112]
abbrev sg (c : Nat) : Str := ⟨#[c]⟩

/-- one-sign texts -/
inductive Sg : List Value → List Nat → Prop
  | nil : Sg [] []
  | cons (c : Nat) (t : Tok) {vs cs} : Sg vs cs → Sg (.str (sg c) t :: vs) (c :: cs)
theorem Sg.snoc {vs : List Value} {cs : List Nat} (h : Sg vs cs) (c : Nat) (t : Tok) : Sg (vs ++ [.str (sg c) t]) (cs ++ [c]) := by
  induction h with
  | nil => exact .cons _ _ .nil
  | cons c' t' _ ih => exact .cons c' t' ih
theorem Sg.length {vs : List Value} {cs : List Nat} (h : Sg vs cs) : vs.length = cs.length := by
  induction h with
  | nil => rfl
  | cons _ _ _ ih => simp [ih]

theorem Sg.append {vs ws : List Value} {cs ds : List Nat} (h : Sg vs cs) (k : Sg ws ds) : Sg (vs ++ ws) (cs ++ ds) := by
  induction h with
  | nil => exact k
  | cons c' t' _ ih => exact .cons c' t' ih
theorem Sg.reverse {vs : List Value} {cs : List Nat} (h : Sg vs cs) : Sg vs.reverse cs.reverse := by
  induction h with
  | nil => exact .nil
  | cons c' t' _ ih => rw [List.reverse_cons, List.reverse_cons]; exact ih.snoc _ _
theorem Sg.take {vs : List Value} {cs : List Nat} (h : Sg vs cs) : ∀ n, Sg (vs.take n) (cs.take n) := by
  induction h with
  | nil => intro n; simpa using Sg.nil
  | cons c' t' _ ih => intro n; cases n with
    | zero => exact .nil
    | succ n => exact .cons c' t' (ih n)
theorem Sg.reads {h : Heap} {vs : List Value} {cs : List Nat} (k : Sg vs cs) : ReadsAll h vs (cs.map fun c => .str (sg c)) [] := by
  induction k with
  | nil => exact .nil
  | cons c t _ ih => exact .cons (.str _ _) ih
theorem Sg.strs {vs : List Value} {cs : List Nat} (k : Sg vs cs) : StrsAre vs (cs.map sg) := by
  induction k with
  | nil => exact .nil
  | cons c t _ ih => exact .cons _ _ ih
theorem sg_ok {c : Nat} (h : c < 128) : PyData.strOk (sg c) = true := by
  have : ∀ c, c < 128 → PyData.strOk (sg c) = true := by decide +kernel
  exact this c h
theorem signs_shaped {cs : List Nat} (h : ∀ c ∈ cs, c < 128) : SeqAt.shaped (.list (cs.map fun c => .str (sg c))) = true := by
  have a : PyData.canLayAll0 (cs.map fun c => PyData.str (sg c)) = true := by
    induction cs with
    | nil => rfl
    | cons c r ih => simp [PyData.canLayAll0, PyData.canLay0, ih fun x hx => h x (.tail _ hx), sg_ok (h c (.head _))]
  have b : ∀ cs : List Nat, PyData.depthAll (cs.map fun c => PyData.str (sg c)) = 0 := fun cs => by
    induction cs with
    | nil => rfl
    | cons c r ih => simp [PyData.depthAll, PyData.depth, ih]
  simp [SeqAt.shaped, PyData.canLay0, PyData.depth, a, b]
theorem plain1 {fl : List Nat} (h : ∀ c ∈ fl, c < 128) {n : Nat} : ∀ c ∈ fl.reverse ++ fl.take n, c < 128 := by
  intro c hc
  rcases List.mem_append.mp hc with hc | hc
  · exact h _ (List.mem_reverse.mp hc)
  · exact h _ (List.mem_of_mem_take hc)
theorem plain2 {fl : List Nat} (h : ∀ c ∈ fl, c < 128) {n : Nat} : ∀ c ∈ fl ++ fl.take n, c < 128 := by
  intro c hc
  rcases List.mem_append.mp hc with hc | hc
  · exact h _ hc
  · exact h _ (List.mem_of_mem_take hc)
theorem fc_plain {fl : List Nat} (h : fl.Sublist FC) : ∀ c ∈ fl, c < 128 := fun c hc => by
  have := h.subset hc
  have k : ∀ c ∈ FC, c < 128 := by decide
  exact k c this
theorem fc_len {fl : List Nat} (h : fl.Sublist FC) : fl.length ≤ 8 := h.length_le
theorem pick_upto (l : List Value) {r : Int} (h : 0 ≤ r) : kms_pick l none (some r) = l.take r.toNat := by
  unfold kms_pick kms_lo kms_hi
  simp only [if_neg (Int.not_lt.mpr h), List.drop_zero, Nat.sub_zero]
  rcases Nat.le_total r.toNat l.length with q | q
  · rw [Nat.min_eq_left q]
  · rw [Nat.min_eq_right q, List.take_of_length_le (Nat.le_refl _), List.take_of_length_le q]
theorem fold_signs (cs : List Nat) : ∀ acc : Array Nat, ((cs.map sg).foldl (fun acc p => acc ++ (Str.ofString "").cps ++ p.cps) acc).toList = acc.toList ++ cs := by
  have e : (Str.ofString "").cps = #[] := by decide +kernel
  induction cs with
  | nil => intro acc; simp
  | cons c r ih => intro acc; simp only [List.map_cons, List.foldl_cons]; rw [ih, e]; simp
theorem cps_join_signs (cs : List Nat) : (Txt.join (Str.ofString "") (cs.map sg)).cps.toList = cs := by
  unfold Txt.join Builtin.Str.glued
  cases cs with
  | nil => decide +kernel
  | cons c r =>
    simp only [List.map_cons, List.drop_succ_cons, List.drop_zero, List.headD_cons]
    rw [fold_signs]
    simp

inductive MtIs : Value → Option Int → Prop
  | none : MtIs .none none
  | int (m : Int) (t : Tok) : 97 ≤ m → m ≤ 99 → MtIs (.int m t) (some m)

abbrev tupO (a b c : Value) : Obj := { cls := .type "tuple", data := .seq #[a, b, c] }

theorem sub_snoc {l : List Nat} {fl : List Nat} {i : Nat} {c : Nat} (h : fl.Sublist (l.take i)) (hc : l[i]? = some c) : (fl ++ [c]).Sublist (l.take (i + 1)) := by
  rw [List.take_add_one, hc]
  exact h.append (List.Sublist.refl _)
theorem sub_skip {l : List Nat} {fl : List Nat} {i : Nat} (h : fl.Sublist (l.take i)) : fl.Sublist (l.take (i + 1)) := by
  rw [List.take_add_one]
  exact h.trans (List.sublist_append_left _ _)

theorem item_kc {r : Int} (h0 : 0 ≤ r) (h1 : r < 15) : ∃ c ∈ KC, Txt.item (Str.ofString " w_.()'\"\\/$<>!|") r = sg c := by
  have : ∀ n : Nat, n < 15 → ∃ c ∈ KC, Txt.item (Str.ofString " w_.()'\"\\/$<>!|") (n : Int) = sg c := by decide +kernel
  obtain ⟨n, rfl⟩ := Int.eq_ofNat_of_zero_le h0
  exact this n (by omega)
theorem flags_cps : (Str.ofString "1234bcnp").cps = FC.toArray := by decide +kernel
theorem flag_at {i c : Nat} (h : (Str.ofString "1234bcnp").cps[i]? = some c) : FC[i]? = some c := by
  rw [flags_cps] at h; simpa using h
end Mine
end

/- Known -/
section
open PySem PySem.W PySem.Calls PyProof.Rows
theorem Mine.restKnown {prog : Program} {w : World} {A : Around} {env : Env} {Q : Flow → Shared → Prop} {E : Value → Shared → Prop} {s : Shared} (h : ∀ f s', Q f s') : wpAny (model prog w) A (execs [] env) Q E s := by
  k_with_none
  w_top off
  walk1
  exact h _ _
end
section
open PySem PySem.W PySem.Calls PyProof.Rows
namespace Mine

theorem ln2 : True := by
  k_with "mine room" => row_timed "fresh" (((try simp only [depth_under_make, depth_under_kw, depth_in1, depth_deeper, units_in1, units_deeper]); (try dsimp only [cx, ktrTop]); omega))
  k_with "off2" => row_timed "fresh" ((simp only [List.map_cons, List.map_nil, List.mem_cons, List.not_mem_nil, or_false, not_or]; exact ⟨neN (by omega), neN (by omega)⟩))
  trivial
local macro_rules | `(tactic| k_room) => `(tactic| ((try simp only [depth_under_make, depth_under_kw, depth_in1, depth_deeper]); (try dsimp only [cx, ktrTop]); (try dsimp only [recursionLimit]); omega))
theorem ln4 : True := by
  k_with "eval ListComp" => row_timed "fresh" ((k_here; lct_look; k_dflt (refine ListComp_ST (F₀ := by k_asm) (by with_unfolding_all rfl) (by decide) (by rfl) (by decide) (by rfl) ?_)))
  k_with "call ref" => row_timed "fresh" ((k_here; (with_reducible show wpAny _ _ (call (Value.ref 197) [Value.ref _, Value.int _ _]) _ _ _); k_dflt (refine' draw_call ?k1 ?k2 ?k3 ?k4 ?k5 ?kk ?D ?ne ?U ?U2 ?d1 ?d2 ?m1 ?m2 ?_; (case k1 => k_asm); (case k2 => k_asm); (case k3 => k_asm); (case k4 => k_asm); (case k5 => k_asm); (case kk => exact rfl); (case D => with_reducible assumption); (case U => k_updF); (case U2 => (intro x9; (try dsimp only); k_updF)); (case ne => assumption); (case d1 => walk_at "mine room"); (case d2 => walk_at "mine room"); (case m1 => omega); (case m2 => omega); k_whole); intro h' tk' r' tr' o' o0' F' N' D' r0' r1'; (try dsimp only at N'); (try k_sweep); (try k_fold)))
  trivial

/-- between two turns of the flags' comprehension -/
def KJ (c dk d0 : Addr) (oc : Obj) (i : Nat) (ys : List Value) (news : List (Addr × Obj)) : Prop := ∃ o o0 fl, news = [(c, oc), (dk, o), (d0, o0)] ∧ Deck d0 o o0 ∧ Sg ys fl ∧ fl.Sublist (FC.take i)
set_option maxHeartbeats 4000000 in
set_option pp.maxSteps 8000 in
theorem known_spec {prog : Program} {w : World} {p : Program} {loose : List Str} {mean : ExcName → Option Value} {mg mb : Str → Option Value} {dp un : Nat} {gd : Option (List Code)} {l : List Env} {s : Shared}
    {dk d0 : Addr} {o o0 : Obj} {Q E : Value → Shared → Prop}
    (H : Here (hd.heap_1 w.params) p loose mean mg mb (cx dp un gd l) l [dk, d0] s.heap) (hdk : s.heap.get? dk = some o) (hd0 : s.heap.get? d0 = some o0) (hD : Deck d0 o o0) (hne : dk ≠ d0)
    (hdp : dp + 40 < 1000) (hun : un + 200 < 9900)
    (ret : ∀ h' tk x fa c t1 mv mt ys fl o' o0', Keep [dk, d0] s.heap h' → h'.get? dk = some o' → h'.get? d0 = some o0' → Deck d0 o' o0' → s.heap.get? fa = none → s.heap.get? x = none → fa ≠ x → h'.get? x = some (tupO (.str (sg c) t1) mv (.ref fa)) → h'.get? fa = some (LCg.lst ys) →
      c ∈ KC → MtIs mv mt → Sg ys fl → fl.Sublist FC → Q (.ref x) { s with heap := h', toks := tk }) :
    wpAny (model prog w) (cx dp un gd l) (call (.ref 207) [.ref dk]) Q E s := by
  refine wpAny_call ?_
  k_dflt (refine' enterC (K := hd.heap_1 w.params) (p := p) (loose := loose) (mean := mean) (mg := mg) (mb := mb) (l := l) (binds := [((PySem.Str.ofString "deck"), .ref dk)]) (D := [(dk, o), (d0, o0)]) ?H ?ND ?ho ?hcd ?hroom ?hbind ?hkind ?hnd ?_ ?c2 ?c3 ?c4; (case H => exact H); (case ho => k_is); (case hcd => k_is); (case hroom => (show dp < 1000; omega)); (case hbind => exact BindsTo.of_eq rfl); (case hkind => exact rfl); (case hnd => decide +kernel); (case c2 => exact rfl); (case c3 => exact rfl); (case c4 => exact rfl); k_whole)
  case ND => 
    intro q hq
    simp only [List.mem_cons, List.not_mem_nil, or_false] at hq
    rcases hq with rfl | rfl
    · exact hdk
    · exact hd0
  intro base g L' h₁ tk cells keep F' N' Y' B' X' T' lt' sz'
  replace hne := neN hne
  replace sz' := Nat.lt_succ_of_le sz'
  k_lt lt'
  obtain ⟨oc, hE', dC'⟩ := CellsAre.one Y'
  subst hE'
  clear Y'
  (try simp only [List.cons_append, List.nil_append] at N')
  dsimp only
  try k_fold
  k_steps
  all_goals (
    rename Deck _ _ _ => hDk
    rename (_ : Int) < 15 => h15
    obtain ⟨c, hc, ec⟩ := item_kc (by assumption) h15
    refine ⟨_, _, _, rfl, by decide +kernel, rfl, by k_asm, by k_asm, by (rw [sizeLine_eq]; decide +kernel), fun s₂ hs₂ => turnsT (KJ (L' + 1) dk d0 oc) ?turn ?fin _ 0 [] _ (Nat.zero_add _) ⟨_, _, [], rfl, hDk, .nil, by simp⟩⟩
    case turn =>
      obtain ⟨hh, rfl⟩ := hs₂
      clear hDk
      rintro i ys news v I oI C oC D m₂ h tk E' hi ⟨o1, o2, fl, rfl, hDk, hs, hsub⟩ ⟨c2, u2, hc2, rfl⟩ hC hx F N off ne
      simp only [LCg.Off3, and_true] at off
      k_steps
      all_goals first
        | exact ⟨_, _, _, rfl, by assumption, hs.snoc _ _, sub_snoc hsub (flag_at hc2)⟩
        | exact ⟨_, _, _, rfl, by assumption, hs, sub_skip hsub⟩
    case fin =>
      obtain ⟨hh, rfl⟩ := hs₂
      rintro ys news ⟨o1, o2, fl, rfl, hDk, hs, hsub⟩
      k_steps
      (rename Fr _ _ _ _ => FF; rename News _ _ _ _ => NN)
      rw [ec] at NN
      exact ret _ _ _ _ _ _ _ _ _ _ _ _ (fun b o e n => FF.keep b o (keep b o e n)) (NN.get (by k_mem)) (NN.get (by k_mem)) hDk (fresh_of keep (News.new NN (.tail _ (.head _))) (by walk_at "off2")) (fresh_of keep (News.new NN (.head _)) (by walk_at "off2")) (neN (by omega)) (NN.get (.head _)) (NN.get (.tail _ (.head _))) hc
        (by first | exact .none | exact .int _ _ (by omega) (by omega)) hs (by simpa [flags_cps] using hsub))
end Mine
end

/- KnownB -/
section
open PySem PySem.W PySem.Calls PyProof.Rows
theorem Mine.restKnownB {prog : Program} {w : World} {A : Around} {env : Env} {Q : Flow → Shared → Prop} {E : Value → Shared → Prop} {s : Shared} (h : ∀ f s', Q f s') : wpAny (model prog w) A (execs [] env) Q E s := by
  k_with_none
  w_top off
  walk1
  exact h _ _
end
section
open PySem PySem.W PySem.Calls PyProof.Rows
namespace Mine

theorem Keep.drop {D : List Addr} {h h' : Heap} {x : Addr} {ox : Obj} (k : Keep (x :: D) h h') (e : h.get? x = some ox) (e' : h'.get? x = some ox) : Keep D h h' := by
  intro b o hb hn
  by_cases hx : b = x
  · subst hx; rw [e] at hb; cases hb; exact e'
  · exact k b o hb (by simp only [List.mem_cons, not_or]; exact ⟨hx, hn⟩)

section
variable {prog : Program} {w : World} {A : Around} {E : Value → Shared → Prop} {s : Shared} {a b D : Addr} {vs : List Value} {cs : List Nat} {n k : Nat} {t : Tok} {Q : Value → Shared → Prop}
theorem sg_eq_nil (ha : s.heap.get? a = some (W.listOf vs.toArray n)) (hb : s.heap.get? b = some (W.listOf #[] k)) (hs : Sg vs cs) (hc : ∀ c ∈ cs, c < 128) (hu : A.units + 64 < cLine) (h : Q (.bool (decide (cs = []))) s) :
    wpAny (model prog w) A (compareOp .Eq (.ref a) (.ref b)) Q E s := by
  refine eq_dataH (da := .list (cs.map fun c => .str (sg c))) (db := .list []) (reads_list_at ha rfl rfl (by simpa using hs.reads)) (reads_list_at hb rfl rfl .nil) (signs_shaped hc) rfl hu ?_
  have e : PyData.eqv (.list (cs.map fun c => .str (sg c))) (.list []) = decide (cs = []) := by
    cases cs with
    | nil => rfl
    | cons c r => simp [PyData.eqv, PyData.eqvAll]
  rw [e]; exact h
theorem slice_upto {h₀ h : Heap} {L l : Addr} {m : Str → Option Value} {news : List (Addr × Obj)} {gens : Array GenState} {drawn : Drawn} {toks : Nat} {os : OsState} {value slice : PySem.Expr} {r : Int} {u : Tok}
    (F : Fr h₀ L h m) (N : News h₀ L h news) (hl : (l, W.listOf vs.toArray n) ∈ news) (hr : 0 ≤ r) (hz : vs.length ≤ sizeLine)
    (hQ : ∀ D h', Fr h₀ L h' m → News h₀ L h' ((D, W.listOf (vs.take r.toNat).toArray 0) :: news) → (∀ p ∈ news, p.1 < D) → Q (.ref D) { heap := h', gens, drawn, toks, os })
    (hs : subscripted slice false (.ref l) (.ref h.objs.size) = operate [.ref h.objs.size, .ref l] (getItem (.ref l) (.ref h.objs.size))) (ht : ∀ r, letTemporaryGo value (.ref l) r = pure ()) :
    wpAny (model prog w) A (subscriptTail value slice (.ref l) (.ref h.objs.size)) Q E { heap := h.push { cls := .type "slice", data := .fields #[.none, .int r u, .none] }, gens, drawn, toks, os } :=
  kms_slice_lit (s := { heap := h, gens, drawn, toks, os }) (lo := none) (hi := some r) (its := vs.toArray) F N (IsL.isList (n := n) (N.get hl)) .none (.int _ _) (pick_upto _ hr) hQ hs ht (by rw [List.size_toArray]; exact hz)
theorem sg_join (ha : s.heap.get? D = some (W.listOf vs.toArray n)) (hs : Sg vs cs) (hz : cs.length ≤ 1000) (h : ∀ t' k T, T.cps.toList = cs → Q (.str T t') { s with toks := k }) :
    wpAny (model prog w) A (call (.builtin "str.join") [.str (Str.ofString "") t, .ref D]) Q E s := by
  have e0 : (Str.ofString "").length = 0 := by decide +kernel
  have e1 : ((cs.map sg).map (·.length)).sum = cs.length := by
    clear hs hz ha h
    induction cs with
    | nil => rfl
    | cons c r ih => simp only [List.map_cons, List.sum_cons, ih, List.length_cons]; rw [show (sg c).length = 1 from rfl]; omega
  refine join_list (ys := cs.map sg) (IsL.isList (n := n) ha) (by simpa using hs.strs) (by rw [e0, e1]; omega) fun t' k => h t' k _ (cps_join_signs cs)
end
section
variable {prog : Program} {w : World} {p : Program} {loose : List Str} {mean : ExcName → Option Value} {mg mb : Str → Option Value} {dp un : Nat} {gd : Option (List Code)} {l : List Env} {s : Shared} {dk d0 : Addr} {o o0 : Obj} {Q E : Value → Shared → Prop}
theorem known_call {cn : Str} {cs : Scope} {L a : Addr} {ccd : Value} {cl : List (Str × Addr)} {outer : List Env} {A₀ : Around} {base h₀ : Heap} {m : Str → Option Value} {news : List (Addr × Obj)} {f : Obj → List (Addr × Obj)} {f2 : Obj → Obj → List (Addr × Obj)}
    (B : Below A₀ base outer h₀) (F : Fr h₀ L s.heap m) (X : (hd.heap_1 w.params).In h₀) (N : News h₀ L s.heap news) (T : Top p loose mean mg mb h₀) (hk : cs.kind = .function)
    (hD : Deck d0 o o0) (hne : dk ≠ d0) (U : UpdF dk o news f) (U2 : ∀ x, UpdF d0 o0 (f x) (f2 x)) (hdp : dp + 40 < 1000) (hun : un + 200 < 9900)
    (ret : ∀ h' tk x fa c t1 mv mt ys fl o' o0', Fr h₀ L h' m → News h₀ L h' ((x, tupO (.str (sg c) t1) mv (.ref fa)) :: (fa, LCg.lst ys) :: f2 o' o0') → Deck d0 o' o0' → LCg.Off1 fa news → LCg.Off1 x news → (@Ne Nat fa x) →
      c ∈ KC → MtIs mv mt → Sg ys fl → fl.Sublist FC → Q (.ref x) { s with heap := h', toks := tk }) :
    wpAny (model prog w) (ktrTop dp un gd cn cs L a ccd cl outer) (call (.ref 207) [.ref dk]) Q E s := by
  have ND := deck_sub N U U2 hne
  refine known_spec (H := Here.of (D := [(dk, o), (d0, o0)]) (A := ktrTop dp un gd cn cs L a ccd cl outer) B F X ND T rfl rfl hk) (ND _ (.head _)).1 (ND _ (.tail _ (.head _))).1 hD hne hdp hun ?_
  intro h' tk x fa c t1 mv mt ys fl o' o0' k g1 g2 hD' n1 n2 n3 e1 e2 hc hm hs hf
  obtain ⟨F', N'⟩ := back F N U U2 hne k g1 g2
  exact ret h' tk x fa c t1 mv mt ys fl o' o0' F' (join F (join F N' n1 e2) n2 e1) hD' (off_of N n1) (off_of N n2) n3 hc hm hs hf
end
end Mine
end

/- Cuts -/
section
open PySem PySem.W PySem.Calls PyProof.Rows
theorem Mine.restCuts {prog : Program} {w : World} {A : Around} {env : Env} {Q : Flow → Shared → Prop} {E : Value → Shared → Prop} {s : Shared} (h : ∀ f s', Q f s') : wpAny (model prog w) A (execs [] env) Q E s := by
  k_with_none
  w_top off
  walk1
  exact h _ _
end
section
open PySem PySem.W PySem.Calls PyProof.Rows
namespace Mine

/-- a mark: the next statement of the kind is walked by itself, up to Mid -/
structure Cut (n : Nat) (Mid : Shared → Prop) : Prop where
theorem cut (n : Nat) (Mid : Shared → Prop) : Cut n Mid := ⟨⟩
def CutEnd (Mid : Shared → Prop) (f : Flow) (s' : Shared) : Prop := f = .next ∧ Mid s'
def Stop (p : Prop) : Prop := p
theorem Stop.out {p : Prop} (h : Stop p) : p := h
theorem cut_next {n : Nat} {M : Model} {A : Around} {st : Stmt} {env : Env} {E : Value → Shared → Prop} {s : Shared} {Q : Flow → Shared → Prop} {Mid : Shared → Prop} (_c : Cut n Mid)
    (h : wpAny M A (exec st env) (CutEnd Mid) E s) (k : Stop (∀ s', Mid s' → Q .next s')) : wpAny M A (exec st env) Q E s :=
  wpAny_mono h (fun f s' hf => by obtain ⟨rfl, hm⟩ := hf; exact k s' hm) fun _ _ e => e
theorem Fr.same {h₀ h : Heap} {L : Addr} {m : Str → Option Value} {x : Str} {v : Value} (F : Fr h₀ L h m) (e : m x = some v) : Fr h₀ L h (fun y => if y = x then some v else m y) := by
  have : (fun y => if y = x then some v else m y) = m := by
    funext y
    by_cases hy : y = x
    · rw [if_pos hy, hy, e]
    · rw [if_neg hy]
  rw [this]; exact F
theorem sg_eq {a b : Nat} (h : (sg a == sg b) = true) : a = b := by
  have : sg a = sg b := by simpa using h
  injection this with e
  simpa using e
theorem blank_is : Str.ofString " " = sg 32 := by decide +kernel
theorem dash_is : Str.ofString "-" = sg 45 := by decide +kernel
theorem News.sub {h₀ h : Heap} {L : Addr} {n n' : List (Addr × Obj)} (N : News h₀ L h n) (k : ∀ q ∈ n', q ∈ n) : News h₀ L h n' := fun q hq => N q (k q hq)
theorem News.one {h₀ h : Heap} {L : Addr} {n n' : List (Addr × Obj)} {q : Addr × Obj} (N : News h₀ L h n) (k : q ∈ n) (r : News h₀ L h n') : News h₀ L h (q :: n') := fun p hp => by
  rcases List.mem_cons.mp hp with rfl | hp
  · exact N _ k
  · exact r _ hp
theorem News.none {h₀ h : Heap} {L : Addr} : News h₀ L h [] := fun p hp => by cases hp
theorem Fr.to {h₀ h : Heap} {L : Addr} {m m' : Str → Option Value} (F : Fr h₀ L h m) (e : ∀ y, m y = m' y) : Fr h₀ L h m' := by
  have : m = m' := funext e
  rw [← this]; exact F

section
variable {prog : Program} {w : World} {A : Around} {E : Value → Shared → Prop} {s : Shared} {a b D : Addr} {vs : List Value} {cs : List Nat} {n k : Nat} {t u : Tok} {Q : Value → Shared → Prop}
theorem slice_rev {h₀ h : Heap} {L l : Addr} {m : Str → Option Value} {news : List (Addr × Obj)} {gens : Array GenState} {drawn : Drawn} {toks : Nat} {os : OsState} {value slice : PySem.Expr} {vk : Value} {ops : List Value}
    (F : Fr h₀ L h m) (N : News h₀ L h news) (hl : (l, W.listOf vs.toArray n) ∈ news) (pk : IsPart vk (some (-1))) (hz : vs.length ≤ sizeLine)
    (hQ : ∀ D h', Fr h₀ L h' m → News h₀ L h' ((D, W.listOf vs.reverse.toArray 0) :: news) → (∀ p ∈ news, p.1 < D) → Q (.ref D) { heap := h', gens, drawn, toks, os })
    (hs : subscripted slice false (.ref l) (.ref h.objs.size) = operate ops (getItem (.ref l) (.ref h.objs.size))) (ht : ∀ r, letTemporaryGo value (.ref l) r = pure ()) :
    wpAny (model prog w) A (subscriptTail value slice (.ref l) (.ref h.objs.size)) Q E { heap := h.push { cls := .type "slice", data := .fields #[.none, .none, vk] }, gens, drawn, toks, os } :=
  krv_lit (s := { heap := h, gens, drawn, toks, os }) (its := vs.toArray) F N (IsL.isList (n := n) (N.get hl)) pk rfl hQ hs ht (by rw [List.size_toArray]; exact hz)
theorem add_texts {x y : Str} (hx : x.length + y.length ≤ 2000) (h : ∀ t' k, Q (.str (x ++ y) t') { s with toks := k }) : wpAny (model prog w) A (binaryOp .Add (.str x t) (.str y u)) Q E s :=
  add_str h (Nat.le_trans hx (by rw [sizeLine_eq]; decide +kernel))
end

/-- the sign of a match -/
def mtSign : Option Int → Nat
  | none => 32
  | some m => m.toNat

/-- a description of a syntax, as signs -/
inductive Desc (c : Nat) (mt : Option Int) (fl : List Nat) : List Nat → Prop
  | short (c' : Nat) : c' = c ∨ (c' = 45 ∧ c = 32) → mt = none → fl = [] → Desc c mt fl [c']
  | long (c' : Nat) (hs : List Nat) : c' = c ∨ (c' = 45 ∧ c = 32) → (∀ x, x ∈ hs ↔ x ∈ fl) → hs.length ≤ 20 → Desc c mt fl (c' :: mtSign mt :: hs)

theorem mem_heard1 {fl : List Nat} {n : Nat} : ∀ x, x ∈ fl.reverse ++ fl.take n ↔ x ∈ fl := by
  intro x; simp only [List.mem_append, List.mem_reverse]; exact ⟨fun h => h.elim id List.mem_of_mem_take, .inl⟩
theorem mem_heard2 {fl : List Nat} {n : Nat} : ∀ x, x ∈ fl ++ fl.take n ↔ x ∈ fl := by
  intro x; simp only [List.mem_append]; exact ⟨fun h => h.elim id List.mem_of_mem_take, .inl⟩
theorem sg_app {a : Nat} {T : Str} : (sg a ++ T).cps.toList = a :: T.cps.toList := by
  show (#[a] ++ T.cps).toList = _
  simp
theorem len_sg {a : Nat} : (sg a).length = 1 := rfl
theorem len_cps {T : Str} : T.length = T.cps.toList.length := by show T.cps.size = _; simp
theorem len_app {S T : Str} : (S ++ T).length = S.length + T.length := PySem.Str.length_append ..
theorem app_cps {S T : Str} : (S ++ T).cps.toList = S.cps.toList ++ T.cps.toList := by
  show (S.cps ++ T.cps).toList = _
  simp
end Mine
end

/- Text -/
section
open PySem PySem.W PySem.Calls PyProof.Rows
theorem Mine.restText {prog : Program} {w : World} {A : Around} {env : Env} {Q : Flow → Shared → Prop} {E : Value → Shared → Prop} {s : Shared} (h : ∀ f s', Q f s') : wpAny (model prog w) A (execs [] env) Q E s := by
  k_with_none
  w_top off
  walk1
  exact h _ _
end
section
open PySem PySem.W PySem.Calls PyProof.Rows
namespace Mine
theorem ln6 : True := by
  k_with "mine room" => row_timed "fresh" (((try simp only [depth_under_make, depth_under_kw, depth_in1, depth_deeper, units_in1, units_deeper]); (try dsimp only [cx, ktrTop]); (try simp only [cLine]); omega))
  k_with "off2" => row_timed "fresh" ((simp only [List.map_cons, List.map_nil, List.mem_cons, List.not_mem_nil, or_false, not_or]; exact ⟨neN (by omega), neN (by omega)⟩))
  trivial
local macro_rules | `(tactic| k_room) => `(tactic| ((try simp only [depth_under_make, depth_under_kw, depth_in1, depth_deeper]); (try dsimp only [cx, ktrTop]); (try dsimp only [recursionLimit]); omega))
theorem ln8 : True := by
  k_with "eval ListComp" => row_timed "fresh" ((k_here; lct_look; k_dflt (refine ListComp_ST (F₀ := by k_asm) (by with_unfolding_all rfl) (by decide) (by rfl) (by decide) (by rfl) ?_)))
  k_with "call ref" => row_timed "fresh" ((k_here; (with_reducible show wpAny _ _ (call (Value.ref 197) [Value.ref _, Value.int _ _]) _ _ _); k_dflt (refine' draw_call ?k1 ?k2 ?k3 ?k4 ?k5 ?kk ?D ?ne ?U ?U2 ?d1 ?d2 ?m1 ?m2 ?_; (case k1 => k_asm); (case k2 => k_asm); (case k3 => k_asm); (case k4 => k_asm); (case k5 => k_asm); (case kk => exact rfl); (case D => with_reducible assumption); (case U => k_updF); (case U2 => (intro x9; (try dsimp only); k_updF)); (case ne => assumption); (case d1 => walk_at "mine room"); (case d2 => walk_at "mine room"); (case m1 => omega); (case m2 => omega); k_whole); intro h' tk' r' tr' o' o0' F' N' D' r0' r1'; (try dsimp only at N'); (try k_sweep); (try k_fold)))
  k_with "my steps" => row_timed "fresh" (repeat' (first | (k_unfold; (try dsimp only)) | (k_end; wrow_close) | ((try dsimp only); walk1) | (leave1; walk_say "STEP leave1"; try dsimp only) | fail "no step"))
  k_with "sgs" => row_timed "fresh" (first | with_reducible assumption | (refine' Sg.append ?sa ?sb; (case sa => walk_at "sgs"); (case sb => walk_at "sgs")) | (refine' Sg.reverse ?sa; (case sa => walk_at "sgs")) | (refine' Sg.take ?sa _; (case sa => walk_at "sgs")) | exact Sg.nil)
  k_with "small" => row_timed "fresh" ((rw [sizeLine_eq]; (try simp only [Array.length_toList, List.size_toArray, List.length_append, List.length_reverse, List.length_take, List.length_nil]); omega))
  k_with "subscriptTail Name Slice ref ref" => row_timed "fresh" ((k_here; (with_reducible show wpAny _ _ (subscriptTail _ (PySem.Expr.Slice none none (some _) _) (Value.ref _) (Value.ref _)) _ _ _); k_dflt (refine' slice_rev ?F ?N ?l ?pk ?z ?_ ?s ?t; (case F => k_asm); (case N => k_asm); (case l => k_mem); (case pk => exact IsPart.int _ _); (case s => with_unfolding_all rfl); (case t => kmk_pure); (case z => walk_at "small")); intro D' h' F' N' l1; (try dsimp only at N'); (try k_lt l1); (try k_sweep)))
  k_with "subscriptTail Name Slice ref ref" => row_timed "fresh" ((k_here; (with_reducible show wpAny _ _ (subscriptTail _ (PySem.Expr.Slice none (some _) none _) (Value.ref _) (Value.ref _)) _ _ _); k_dflt (refine' slice_upto ?F ?N ?l ?p ?z ?_ ?s ?t; (case F => k_asm); (case N => k_asm); (case l => k_mem); (case p => assumption); (case s => with_unfolding_all rfl); (case t => kmk_pure); (case z => walk_at "small")); intro D' h' F' N' l1; (try dsimp only at N'); (try k_lt l1); (try k_sweep)))
  k_with "binaryOp Add ref ref" => row_timed "fresh" ((k_here; (with_reducible show wpAny _ _ (binaryOp _ (Value.ref _) (Value.ref _)) _ _ _); k_dflt (refine' kmk_add_lit ?F ?N ?a ?b ?e ?_ ?z; (case F => k_asm); (case N => k_asm); (case a => exact News.isList (by k_asm) (by k_mem)); (case b => exact News.isList (by k_asm) (by k_mem)); (case e => exact rfl); (case z => walk_at "small")); intro D' h' F' N' l1; (try dsimp only at N'); (try k_lt l1); (try k_sweep)))
  k_with "compareOp Eq ref ref" => row_timed "fresh" ((k_here; (with_reducible show wpAny _ _ (compareOp CmpOp.Eq (Value.ref _) (Value.ref _)) _ _ _); k_dflt (refine' sg_eq_nil ?a ?b ?s ?c ?u ?_; (case a => exact News.get (by k_asm) (by k_mem)); (case b => exact News.get (by k_asm) (by k_mem)); (case s => walk_at "sgs"); (case c => walk_at "plain"); (case u => walk_at "mine room"))))
  k_with "call builtin:str.join" => row_timed "fresh" ((k_here; (with_reducible show wpAny _ _ (call (Value.builtin "str.join") [Value.str _ _, Value.ref _]) _ _ _); k_dflt (refine' sg_join ?a ?s ?z ?_; (case a => exact News.get (by k_asm) (by k_mem)); (case s => walk_at "sgs"); (case z => walk_at "plainlen")); intro t' k' T' hT'))
  k_with "plain" => row_timed "fresh" (first | assumption | exact plain1 (by assumption) | exact plain2 (by assumption))
  k_with "plainlen" => row_timed "fresh" (((try simp only [List.length_append, List.length_reverse, List.length_take]); omega))
  k_with "binaryOp Add str str" => row_timed "fresh" ((k_here; (with_reducible show wpAny _ _ (binaryOp _ (Value.str _ _) (Value.str _ _)) _ _ _); k_dflt (refine' add_texts ?z ?_; (case z => walk_at "texts small")); intro t' k'))
  k_with "texts small" => row_timed "fresh" (((try (rename _ = _ => hT; have hT2 := congrArg List.length hT; (try simp only [] at hT2))); simp only [len_app, len_sg, blank_is]; (try rw [len_cps]); omega))
  k_with "exec If" => row_timed "fresh" ((k_here; (rename Cut 1 _ => hcut); refine' cut_next hcut ?_ ?_ <;> clear hcut))
  k_with "exec Assign" => row_timed "fresh" ((k_here; (rename Cut 2 _ => hcut); refine' cut_next hcut ?_ ?_ <;> clear hcut))
  trivial
set_option maxHeartbeats 6000000 in
theorem text_spec {prog : Program} {w : World} {p : Program} {loose : List Str} {mean : ExcName → Option Value} {mg mb : Str → Option Value} {dp un : Nat} {gd : Option (List Code)} {l : List Env} {s : Shared}
    {dk d0 x fa : Addr} {o o0 : Obj} {c : Nat} {t1 : Tok} {mv : Value} {mt : Option Int} {ys : List Value} {fl : List Nat} {Q E : Value → Shared → Prop}
    (H : Here (hd.heap_1 w.params) p loose mean mg mb (cx dp un gd l) l [x, fa, dk, d0] s.heap) (hx : s.heap.get? x = some (tupO (.str (sg c) t1) mv (.ref fa))) (hfa : s.heap.get? fa = some (LCg.lst ys)) (hdk : s.heap.get? dk = some o) (hd0 : s.heap.get? d0 = some o0) (hD : Deck d0 o o0)
    (n1 : x ≠ fa) (n2 : x ≠ dk) (n3 : x ≠ d0) (n4 : fa ≠ dk) (n5 : fa ≠ d0) (hne : dk ≠ d0) (hc : c ∈ KC) (hm : MtIs mv mt) (hs : Sg ys fl) (hf : fl.Sublist FC)
    (hdp : dp + 40 < 1000) (hun : un + 200 < 9900)
    (ret : ∀ h' tk T tT o' o0', Keep [dk, d0] s.heap h' → h'.get? dk = some o' → h'.get? d0 = some o0' → Deck d0 o' o0' → Desc c mt fl T.cps.toList → Q (.str T tT) { s with heap := h', toks := tk }) :
    wpAny (model prog w) (cx dp un gd l) (call (.ref 214) [.ref dk, .ref x]) Q E s := by
  refine wpAny_call ?_
  k_dflt (refine' enter (K := hd.heap_1 w.params) (p := p) (loose := loose) (mean := mean) (mg := mg) (mb := mb) (l := l) (binds := [((PySem.Str.ofString "deck"), .ref dk), ((PySem.Str.ofString "known"), .ref x)]) (D := [(x, tupO (.str (sg c) t1) mv (.ref fa)), (fa, LCg.lst ys), (dk, o), (d0, o0)]) ?H ?ND ?ho ?hcd ?hroom ?hbind ?hloc ?_ ?c2 ?c3 ?c4 ?c5; (case H => exact H); (case ho => k_is); (case hcd => k_is); (case hroom => (show dp < 1000; omega)); (case hbind => exact BindsTo.of_eq rfl); (case hloc => exact locs rfl); (case c2 => exact rfl); (case c3 => exact rfl); (case c4 => exact rfl); (case c5 => decide); k_whole)
  case ND => 
    intro q hq
    simp only [List.mem_cons, List.not_mem_nil, or_false] at hq
    rcases hq with rfl | rfl | rfl | rfl
    · exact hx
    · exact hfa
    · exact hdk
    · exact hd0
  intro base g L' h₁ keep F' N' B' X' T' lt' sz'
  replace hne := neN hne
  replace n1 := neN n1
  replace n2 := neN n2
  replace n3 := neN n3
  replace n4 := neN n4
  replace n5 := neN n5
  k_lt lt'
  have hfl := fc_len hf
  have hyl : ys.length ≤ 8 := by rw [hs.length]; exact hfl
  have hp := fc_plain hf
  clear hf
  dsimp only
  try k_fold
  have hc1 := cut 1 fun s' => ∃ h' tk c' tt o o0, s' = { s with heap := h', toks := tk } ∧ Fr g L' h' (fun y => if y = Str.ofString "kind" then some (.str (sg c') tt) else if y = Str.ofString "flags" then some (.ref fa) else if y = Str.ofString "match" then some mv else if y = Str.ofString "kind" then some (.str (sg c) t1) else List.lookup y [(Str.ofString "deck", .ref dk), (Str.ofString "known", .ref x)].reverse) ∧ News g L' h' [(x, tupO (.str (sg c) t1) mv (.ref fa)), (fa, LCg.lst ys), (dk, o), (d0, o0)] ∧ Deck d0 o o0 ∧ (c' = c ∨ (c' = 45 ∧ c = 32))
  k_steps
  all_goals (try dsimp only)
  all_goals first
    | (rename Fr _ _ _ _ => FF; rename News _ _ _ _ => NN; rename Deck _ _ _ => hDk; rename (sg c == _) = true => hk; rw [blank_is] at hk; rw [dash_is] at FF; exact ⟨rfl, _, _, _, _, _, _, rfl, FF, NN, hDk, .inr ⟨rfl, sg_eq hk⟩⟩)
    | (rename Fr _ _ _ _ => FF; rename News _ _ _ _ => NN; rename Deck _ _ _ => hDk; exact ⟨rfl, _, _, _, _, _, _, rfl, Fr.same FF rfl, NN, hDk, .inl rfl⟩)
    | skip
  unfold Stop
  rename Fr _ _ _ _ => F0; rename News _ _ _ _ => N0; clear F0 N0 hdk hd0 hD
  rintro s' ⟨h2, tk2, c', tt, o2, o02, rfl, F2, N2, hD2, hc'⟩
  have hc2 := cut 2 fun s' => ∃ h' tk, ∃ pl : Addr, ∃ zs hl, ∃ n : Nat, ∃ o o0, s' = { s with heap := h', toks := tk } ∧ Fr g L' h' (fun y => if y = Str.ofString "heard" then some (.ref pl) else if y = Str.ofString "kind" then some (.str (sg c') tt) else if y = Str.ofString "flags" then some (.ref fa) else if y = Str.ofString "match" then some mv else if y = Str.ofString "kind" then some (.str (sg c) t1) else List.lookup y [(Str.ofString "deck", .ref dk), (Str.ofString "known", .ref x)].reverse) ∧ News g L' h' [(pl, W.listOf (zs : List Value).toArray n), (x, tupO (.str (sg c) t1) mv (.ref fa)), (fa, LCg.lst ys), (dk, o), (d0, o0)] ∧ Deck d0 o o0 ∧ Sg zs hl ∧ (∀ x, x ∈ hl ↔ x ∈ fl) ∧ hl.length ≤ 16 ∧ (∀ c ∈ hl, c < 128) ∧ (@LT.lt Nat _ x pl) ∧ (@LT.lt Nat _ fa pl) ∧ (@LT.lt Nat _ dk pl) ∧ (@LT.lt Nat _ d0 pl)
  (try dsimp only)
  try k_fold
  k_steps
  all_goals (try dsimp only)
  all_goals first
    | (rename Fr _ _ _ _ => FF; rename News _ _ _ _ => NN; rename Deck _ _ _ => hDk; exact ⟨rfl, _, _, _, _, _, _, _, _, rfl, FF, News.one NN (by k_mem) (News.one NN (by k_mem) (News.one NN (by k_mem) (News.one NN (by k_mem) (News.one NN (by k_mem) News.none)))), hDk, by walk_at "sgs", by first | exact mem_heard1 | exact mem_heard2, by simp only [List.length_append, List.length_reverse, List.length_take]; omega, by walk_at "plain", by omega, by omega, by omega, by omega⟩)
    | skip
  unfold Stop
  clear hD2
  rintro s' ⟨h3, tk3, pl, zs, hl, n, o3, o03, rfl, F3, N3, hD3, hz, hmem, hlen, hlt, q1, q2, q3, q4⟩
  have hzl : zs.length ≤ 16 := by rw [hz.length]; exact hlen
  (try dsimp only)
  try k_fold
  cases hm with
  | none =>
    k_steps
    all_goals (try dsimp only)
    all_goals (rename Fr _ _ _ _ => FF; rename News _ _ _ _ => NN; rename Deck _ _ _ => hDk)
    all_goals first
      | (rename hl = [] => e0; exact ret _ _ _ _ _ _ (Keep.drop (Keep.drop (fun b o e n => FF.keep b o (keep b o e n)) hx (NN.get (by k_mem))) hfa (NN.get (by k_mem))) (NN.get (by k_mem)) (NN.get (by k_mem)) hDk (.short c' hc' rfl (by subst e0; exact List.eq_nil_iff_forall_not_mem.mpr fun z hz => by simpa using (hmem z).mpr hz)))
      | (rename _ = hl => hT; exact ret _ _ _ _ _ _ (Keep.drop (Keep.drop (fun b o e n => FF.keep b o (keep b o e n)) hx (NN.get (by k_mem))) hfa (NN.get (by k_mem))) (NN.get (by k_mem)) (NN.get (by k_mem)) hDk (by rw [blank_is, app_cps, sg_app, hT]; exact .long c' hl hc' hmem (by omega)))
  | int m t hm1 hm2 =>
    k_steps
    all_goals (try dsimp only)
    all_goals (rename Fr _ _ _ _ => FF; rename News _ _ _ _ => NN)
    all_goals first
      | (rename _ = hl => hT; exact ret _ _ _ _ _ _ (Keep.drop (Keep.drop (fun b o e n => FF.keep b o (keep b o e n)) hx (NN.get (by k_mem))) hfa (NN.get (by k_mem))) (NN.get (by k_mem)) (NN.get (by k_mem)) hD3 (by rw [app_cps, sg_app, hT]; exact .long c' hl hc' hmem (by omega)))
section
variable {prog : Program} {w : World} {p : Program} {loose : List Str} {mean : ExcName → Option Value} {mg mb : Str → Option Value} {dp un : Nat} {gd : Option (List Code)} {l : List Env} {s : Shared} {dk d0 x fa : Addr} {o o0 : Obj} {c : Nat} {t1 : Tok} {mv : Value} {mt : Option Int} {ys : List Value} {fl : List Nat} {Q E : Value → Shared → Prop}
theorem text_call {cn : Str} {cs : Scope} {L a : Addr} {ccd : Value} {cl : List (Str × Addr)} {outer : List Env} {A₀ : Around} {base h₀ : Heap} {m : Str → Option Value} {news : List (Addr × Obj)} {f : Obj → List (Addr × Obj)} {f2 : Obj → Obj → List (Addr × Obj)}
    (B : Below A₀ base outer h₀) (F : Fr h₀ L s.heap m) (X : (hd.heap_1 w.params).In h₀) (N : News h₀ L s.heap news) (T : Top p loose mean mg mb h₀) (hk : cs.kind = .function)
    (hD : Deck d0 o o0) (hne : dk ≠ d0) (U : UpdF dk o news f) (U2 : ∀ x, UpdF d0 o0 (f x) (f2 x)) (mx : (x, tupO (.str (sg c) t1) mv (.ref fa)) ∈ news) (mf : (fa, LCg.lst ys) ∈ news)
    (n1 : x ≠ fa) (n2 : x ≠ dk) (n3 : x ≠ d0) (n4 : fa ≠ dk) (n5 : fa ≠ d0) (hc : c ∈ KC) (hm : MtIs mv mt) (hs : Sg ys fl) (hf : fl.Sublist FC) (hdp : dp + 40 < 1000) (hun : un + 200 < 9900)
    (ret : ∀ h' tk T tT o' o0', Fr h₀ L h' m → News h₀ L h' (f2 o' o0') → Deck d0 o' o0' → Desc c mt fl T.cps.toList → Q (.str T tT) { s with heap := h', toks := tk }) :
    wpAny (model prog w) (ktrTop dp un gd cn cs L a ccd cl outer) (call (.ref 214) [.ref dk, .ref x]) Q E s := by
  have ND := deck_sub N U U2 hne
  refine text_spec (H := Here.of (D := [(x, tupO (.str (sg c) t1) mv (.ref fa)), (fa, LCg.lst ys), (dk, o), (d0, o0)]) (A := ktrTop dp un gd cn cs L a ccd cl outer) B F X (News.one N mx (News.one N mf ND)) T rfl rfl hk) (N _ mx).1 (N _ mf).1 (ND _ (.head _)).1 (ND _ (.tail _ (.head _))).1 hD n1 n2 n3 n4 n5 hne hc hm hs hf hdp hun ?_
  intro h' tk T tT o' o0' k g1 g2 hD' hd
  obtain ⟨F', N'⟩ := back F N U U2 hne k g1 g2
  exact ret h' tk T tT o' o0' F' N' hD' hd
end
end Mine
end

/- Sorted -/
section
open PySem PySem.W PySem.Calls PyProof.Rows
theorem Mine.restSorted {prog : Program} {w : World} {A : Around} {env : Env} {Q : Flow → Shared → Prop} {E : Value → Shared → Prop} {s : Shared} (h : ∀ f s', Q f s') : wpAny (model prog w) A (execs [] env) Q E s := by
  k_with_none
  w_top off
  walk1
  exact h _ _
end
section
open PySem PySem.W PySem.Calls PyProof.Rows
namespace Mine
theorem ln24 : True := by
  k_with "mine room" => row_timed "fresh" (((try simp only [depth_under_make, depth_under_kw, depth_in1, depth_deeper, units_in1, units_deeper]); (try dsimp only [cx, ktrTop]); (try simp only [cLine]); omega))
  trivial
local macro_rules | `(tactic| k_room) => `(tactic| ((try simp only [depth_under_make, depth_under_kw, depth_in1, depth_deeper]); (try dsimp only [cx, ktrTop]); (try dsimp only [recursionLimit]); omega))
theorem ln25 : True := by
  k_with "eval ListComp" => row_timed "fresh" ((k_here; lct_look; k_dflt (refine ListComp_ST (F₀ := by k_asm) (by with_unfolding_all rfl) (by decide) (by rfl) (by decide) (by rfl) ?_)))
  k_with "sgs" => row_timed "fresh" (first | with_reducible assumption | (refine' Sg.append ?sa ?sb; (case sa => walk_at "sgs"); (case sb => walk_at "sgs")) | (refine' Sg.reverse ?sa; (case sa => walk_at "sgs")) | (refine' Sg.take ?sa _; (case sa => walk_at "sgs")) | exact Sg.nil)
  k_with "plainlen" => row_timed "fresh" (((try simp only [List.length_append, List.length_reverse, List.length_take]); omega))
  k_with "call builtin:str.join" => row_timed "fresh" ((k_here; (with_reducible show wpAny _ _ (call (Value.builtin "str.join") [Value.str _ _, Value.ref _]) _ _ _); k_dflt (refine' sg_join ?a ?s ?z ?_; (case a => exact News.get (by k_asm) (by k_mem)); (case s => walk_at "sgs"); (case z => walk_at "plainlen")); intro t' k' T' hT'))
  trivial

section
variable {prog : Program} {w : World} {A : Around} {E : Value → Shared → Prop} {s : Shared} {c : Nat} {X : Str} {t u : Tok} {Q : Value → Shared → Prop}
theorem in_sign (h : Q (.bool (decide (c ∈ X.cps.toList))) s) : wpAny (model prog w) A (compareOp .In (.str (sg c) u) (.str X t)) Q E s := by
  refine in_str ?_
  rw [StrLaws.found_one]; exact h
theorem notIn_sign (h : Q (.bool (!decide (c ∈ X.cps.toList))) s) : wpAny (model prog w) A (compareOp .NotIn (.str (sg c) u) (.str X t)) Q E s := by
  refine notIn_str ?_
  rw [StrLaws.found_one]; exact h
end
theorem ln29 : True := by
  k_with "compareOp In str str" => row_timed "fresh" ((k_here; refine in_sign ?_))
  trivial
theorem pick_snoc {hs l : List Nat} {i c : Nat} {ys : List Value} {t : Tok} (k : Sg ys ((l.take i).filter fun x => decide (x ∈ hs))) (hc : l[i]? = some c) (h : decide (c ∈ hs) = true) : Sg (ys ++ [.str (sg c) t]) ((l.take (i + 1)).filter fun x => decide (x ∈ hs)) := by
  rw [List.take_add_one, hc, List.filter_append]
  simp only [Option.toList, List.filter_cons, h, if_true, List.filter_nil]
  exact k.snoc _ _
theorem pick_skip {hs l : List Nat} {i c : Nat} {ys : List Value} (k : Sg ys ((l.take i).filter fun x => decide (x ∈ hs))) (hc : l[i]? = some c) (h : decide (c ∈ hs) = false) : Sg ys ((l.take (i + 1)).filter fun x => decide (x ∈ hs)) := by
  rw [List.take_add_one, hc, List.filter_append]
  simp only [Option.toList, List.filter_cons, h, if_false, List.filter_nil, List.append_nil, Bool.false_eq_true]
  exact k
def SJ (c : Addr) (oc : Obj) (hs : List Nat) (i : Nat) (ys : List Value) (news : List (Addr × Obj)) : Prop := news = [(c, oc)] ∧ Sg ys ((FC.take i).filter fun x => decide (x ∈ hs))
set_option maxHeartbeats 4000000 in
theorem sorted_spec {prog : Program} {w : World} {p : Program} {loose : List Str} {mean : ExcName → Option Value} {mg mb : Str → Option Value} {dp un : Nat} {gd : Option (List Code)} {l : List Env} {s : Shared} {T : Str} {t : Tok} {hs : List Nat} {Q E : Value → Shared → Prop}
    (H : Here (hd.heap_1 w.params) p loose mean mg mb (cx dp un gd l) l [] s.heap) (hT : T.cps.toList = hs)
    (hdp : dp + 40 < 1000) (hun : un + 200 < 9900)
    (ret : ∀ h' tk T' t', Keep [] s.heap h' → T'.cps.toList = FC.filter (fun x => decide (x ∈ hs)) → Q (.str T' t') { s with heap := h', toks := tk }) :
    wpAny (model prog w) (cx dp un gd l) (call (.ref 95) [.str T t]) Q E s := by
  refine wpAny_call ?_
  k_dflt (refine' enterC (K := hd.heap_1 w.params) (p := p) (loose := loose) (mean := mean) (mg := mg) (mb := mb) (l := l) (binds := [((PySem.Str.ofString "text"), .str T t)]) (D := []) ?H ?ND ?ho ?hcd ?hroom ?hbind ?hkind ?hnd ?_ ?c2 ?c3 ?c4; (case H => exact H); (case ho => k_is); (case hcd => k_is); (case hroom => (show dp < 1000; omega)); (case hbind => exact BindsTo.of_eq rfl); (case hkind => exact rfl); (case hnd => decide +kernel); (case c2 => exact rfl); (case c3 => exact rfl); (case c4 => exact rfl); k_whole)
  case ND => intro q hq; cases hq
  intro base g L' h₁ tk cells keep F' N' Y' B' X' T' lt' sz'
  replace sz' := Nat.lt_succ_of_le sz'
  obtain ⟨oc, hE', dC'⟩ := CellsAre.one Y'
  subst hE'
  clear Y'
  (try simp only [List.cons_append, List.nil_append] at N')
  (try dsimp only)
  try k_fold
  k_steps
  refine ⟨_, _, _, rfl, by decide +kernel, rfl, by k_asm, by k_asm, by (rw [sizeLine_eq]; decide +kernel), fun s₂ hs₂ => turnsT (SJ (L' + 1) oc hs) ?turn ?fin _ 0 [] _ (Nat.zero_add _) ⟨rfl, .nil⟩⟩
  case turn =>
    obtain ⟨hh, rfl⟩ := hs₂
    rintro i ys news v I oI C oC D m₂ h tk E' hi ⟨rfl, hs1⟩ ⟨c2, u2, hc2, rfl⟩ hC hx F N off ne
    simp only [LCg.Off3, and_true] at off
    k_steps
    · exact ⟨rfl, pick_snoc hs1 (flag_at hc2) (by subst hT; exact decide_eq_true (by assumption))⟩
    · exact ⟨rfl, pick_skip hs1 (flag_at hc2) (by subst hT; exact decide_eq_false (by assumption))⟩
  case fin =>
    obtain ⟨hh, rfl⟩ := hs₂
    rintro ys news ⟨rfl, hs1⟩
    have hl8 : (List.filter (fun x => decide (x ∈ hs)) (List.take (Str.ofString "1234bcnp").cps.size FC)).length ≤ 8 := by
      refine Nat.le_trans (List.length_filter_le _ _) ?_
      exact (List.take_sublist _ FC).length_le
    k_steps
    (rename Fr _ _ _ _ => FF; rename (_ : Str).cps.toList = _ => hT')
    exact ret _ _ _ _ (fun b o e n => FF.keep b o (keep b o e n)) (by rw [hT']; simp [flags_cps])
section
variable {prog : Program} {w : World} {p : Program} {loose : List Str} {mean : ExcName → Option Value} {mg mb : Str → Option Value} {dp un : Nat} {gd : Option (List Code)} {s : Shared} {cn : Str} {cs : Scope} {L a : Addr} {ccd : Value} {cl : List (Str × Addr)} {outer : List Env} {A₀ : Around} {base h₀ : Heap} {m : Str → Option Value} {news : List (Addr × Obj)}
/-- behind a call that changes none of the old objects -/
theorem back0 (F : Fr h₀ L s.heap m) (N : News h₀ L s.heap news) {h' : Heap} (k : Keep [] s.heap h') : Fr h₀ L h' m ∧ News h₀ L h' news :=
  ⟨k.fr F (by simp) (by simp), k.news N (by simp)⟩
theorem sorted_call {T : Str} {t : Tok} {hs : List Nat} {Q E : Value → Shared → Prop}
    (B : Below A₀ base outer h₀) (F : Fr h₀ L s.heap m) (X : (hd.heap_1 w.params).In h₀) (N : News h₀ L s.heap news) (TP : Top p loose mean mg mb h₀) (hk : cs.kind = .function) (hT : T.cps.toList = hs) (hdp : dp + 40 < 1000) (hun : un + 200 < 9900)
    (ret : ∀ h' tk T' t', Fr h₀ L h' m → News h₀ L h' news → T'.cps.toList = FC.filter (fun x => decide (x ∈ hs)) → Q (.str T' t') { s with heap := h', toks := tk }) :
    wpAny (model prog w) (ktrTop dp un gd cn cs L a ccd cl outer) (call (.ref 95) [.str T t]) Q E s :=
  sorted_spec (H := Here.of (D := []) (A := ktrTop dp un gd cn cs L a ccd cl outer) B F X (fun _ h => by cases h) TP rfl rfl hk) hT hdp hun fun h' tk T' t' k hT' =>
    ret h' tk T' t' (back0 F N k).1 (back0 F N k).2 hT'
end
end Mine
end

/- Texts -/
section
open PySem PySem.W PySem.Calls PyProof.Rows
theorem Mine.restTexts {prog : Program} {w : World} {A : Around} {env : Env} {Q : Flow → Shared → Prop} {E : Value → Shared → Prop} {s : Shared} (h : ∀ f s', Q f s') : wpAny (model prog w) A (execs [] env) Q E s := by
  k_with_none
  w_top off
  walk1
  exact h _ _
end
section
open PySem PySem.W PySem.Calls PyProof.Rows
namespace Mine

/-- a text by its signs -/
abbrev tx (l : List Nat) : Str := ⟨l.toArray⟩
theorem tx_of {T : Str} {l : List Nat} (h : T.cps.toList = l) : T = tx l := by
  subst h; cases T; simp
theorem tx_len {l : List Nat} : (tx l).length = l.length := by show l.toArray.size = _; simp
theorem item0 {a : Nat} {r : List Nat} : Txt.item (tx (a :: r)) 0 = sg a := by
  unfold Txt.item Txt.charAt
  rw [tx_len, seqIndex?_zero (by simp)]
  simp
theorem item1 {a b : Nat} {r : List Nat} : Txt.item (tx (a :: b :: r)) 1 = sg b := by
  unfold Txt.item Txt.charAt
  rw [tx_len]
  have : seqIndex? 1 (a :: b :: r).length = some 1 := by
    unfold seqIndex?
    simp [List.length_cons]
    omega
  rw [this]
  simp
theorem from2 {a b : Nat} {r : List Nat} : Txt.slice (tx (a :: b :: r)) (some 2) none = tx r := by
  rw [slice_from_eq (b := ((a :: b :: r).length : Int)) (by decide) (by rw [tx_len]; simp only [List.length_cons]; omega) (by rw [tx_len])]
  have e : (((a :: b :: r).length : Int) - 2).toNat = r.length := by simp only [List.length_cons]; omega
  rw [e]
  simp
theorem from2s {a : Nat} : Txt.slice (tx [a]) (some 2) none = tx [] := by rfl
theorem nil_is : Str.ofString "" = tx [] := by decide +kernel

section
variable {prog : Program} {w : World} {A : Around} {E : Value → Shared → Prop} {s : Shared} {a b c : Nat} {r : List Nat} {X : Str} {t u : Tok} {Q : Value → Shared → Prop} {value slice : PySem.Expr}
theorem eq_nil_no (h : Q (.bool false) s) : wpAny (model prog w) A (compareOp .Eq (.str (tx (a :: r)) t) (.str (Str.ofString "") u)) Q E s := by
  refine eq_str ?_
  rw [nil_is, beq_eq_false_iff_ne.mpr (fun e : tx (a :: r) = tx [] => by injection e with e; simp at e)]; exact h
theorem eq_sign {Y : Str} (hY : Y = sg b) (h : Q (.bool (decide (a = b))) s) : wpAny (model prog w) A (compareOp .Eq (.str (sg a) t) (.str Y u)) Q E s := by
  subst hY
  refine eq_str ?_
  have : (sg a == sg b) = decide (a = b) := by
    by_cases e : a = b
    · subst e; simp
    · rw [decide_eq_false e, beq_eq_false_iff_ne]; intro z; injection z with z; simp at z; exact e z
  rw [this]; exact h
theorem eq_sign_no {Y : Str} (hY : Y = sg b) (e : a ≠ b) (h : Q (.bool false) s) : wpAny (model prog w) A (compareOp .Eq (.str (sg a) t) (.str Y u)) Q E s :=
  eq_sign hY (by rw [decide_eq_false e]; exact h)
theorem eq_sign_yes {Y : Str} (hY : Y = sg b) (e : a = b) (h : Q (.bool true) s) : wpAny (model prog w) A (compareOp .Eq (.str (sg a) t) (.str Y u)) Q E s :=
  eq_sign hY (by rw [decide_eq_true e]; exact h)
theorem ne_sign_no {Y : Str} (hY : Y = sg b) (e : a ≠ b) (h : Q (.bool true) s) : wpAny (model prog w) A (compareOp .NotEq (.str (sg a) t) (.str Y u)) Q E s := by
  subst hY
  refine ne_str ?_
  have : (sg a != sg b) = true := by
    rw [bne_iff_ne]; intro z; injection z with z; simp at z; exact e z
  rw [this]; exact h
theorem ne_sign_yes {Y : Str} (hY : Y = sg b) (e : a = b) (h : Q (.bool false) s) : wpAny (model prog w) A (compareOp .NotEq (.str (sg a) t) (.str Y u)) Q E s := by
  subst hY; subst e
  refine ne_str ?_
  have : (sg a != sg a) = false := by simp
  rw [this]; exact h
theorem in_known (hc : c ∈ X.cps.toList) (h : Q (.bool true) s) : wpAny (model prog w) A (compareOp .In (.str (sg c) u) (.str X t)) Q E s :=
  in_sign (by rw [decide_eq_true hc]; exact h)
theorem notIn_known (hc : c ∈ X.cps.toList) (h : Q (.bool false) s) : wpAny (model prog w) A (compareOp .NotIn (.str (sg c) u) (.str X t)) Q E s :=
  notIn_sign (by rw [decide_eq_true hc]; exact h)
theorem at0 (h : ∀ t' k, Q (.str (sg a) t') { s with toks := k })
    (hs : subscripted slice false (.str (tx (a :: r)) t) (.int 0 u) = operate [.str (tx (a :: r)) t, .int 0 u] (getItem (.str (tx (a :: r)) t) (.int 0 u)))
    (ht : ∀ q, letTemporaryGo value (.str (tx (a :: r)) t) q = pure ()) :
    wpAny (model prog w) A (subscriptTail value slice (.str (tx (a :: r)) t) (.int 0 u)) Q E s :=
  item_str (by decide) (by rw [tx_len]; omega) (by rw [tx_len]; simp only [List.length_cons]; omega) (fun _ => by rw [item0]; exact h _ _) hs ht
theorem at1 (h : ∀ t' k, Q (.str (sg b) t') { s with toks := k })
    (hs : subscripted slice false (.str (tx (a :: b :: r)) t) (.int 1 u) = operate [.str (tx (a :: b :: r)) t, .int 1 u] (getItem (.str (tx (a :: b :: r)) t) (.int 1 u)))
    (ht : ∀ q, letTemporaryGo value (.str (tx (a :: b :: r)) t) q = pure ()) :
    wpAny (model prog w) A (subscriptTail value slice (.str (tx (a :: b :: r)) t) (.int 1 u)) Q E s :=
  item_str (by decide) (by rw [tx_len]; omega) (by rw [tx_len]; simp only [List.length_cons]; omega) (fun _ => by rw [item1]; exact h _ _) hs ht
theorem len_tx {l : List Nat} (hl : l.length < 1000) (h : ∀ t' k, Q (.int l.length t') { s with toks := k }) : wpAny (model prog w) A (call (.builtin "len") [.str (tx l) t]) Q E s :=
  SBL.len (by rw [tx_len]; omega) (by rw [tx_len]; exact h _ _)
theorem ord_sg (h : ∀ t' k, Q (.int (a : Nat) t') { s with toks := k }) : wpAny (model prog w) A (call (.builtin "ord") [.str (sg a) t]) Q E s :=
  ord_of_one rfl (h _ _)
theorem lt_yes {x y : Int} (e : x < y) (h : Q (.bool true) s) : wpAny (model prog w) A (compareOp .Lt (.int x t) (.int y u)) Q E s := lt_int (by rw [decide_eq_true e]; exact h)
theorem lt_no {x y : Int} (e : ¬ x < y) (h : Q (.bool false) s) : wpAny (model prog w) A (compareOp .Lt (.int x t) (.int y u)) Q E s := lt_int (by rw [decide_eq_false e]; exact h)
theorem tail2 {h₀ h : Heap} {L : Addr} {m : Str → Option Value} {news : List (Addr × Obj)} {gens : Array GenState} {drawn : Drawn} {toks : Nat} {os : OsState} {x y : Str}
    (hF : Fr h₀ L h m) (hN : News h₀ L h news) (e : Txt.slice x (some 2) none = y) (hl : x.length < 1000)
    (hQ : ∀ h' t' k, Fr h₀ L h' m → News h₀ L h' news → Q (.str y t') { heap := h', gens, drawn, toks := k, os })
    (hs : subscripted slice false (.str x t) (.ref h.objs.size) = operate [.ref h.objs.size, .str x t] (getItem (.str x t) (.ref h.objs.size)))
    (ht : ∀ r, letTemporaryGo value (.str x t) r = pure ()) :
    wpAny (model prog w) A (subscriptTail value slice (.str x t) (.ref h.objs.size)) Q E { heap := h.push { cls := .type "slice", data := .fields #[.int 2 u, .none, .none] }, gens, drawn, toks, os } :=
  slice_strN_sn (s := { heap := h, gens, drawn, toks, os }) hF hN (fun h' t' k F' N' => by rw [e]; exact hQ h' t' k F' N') hs ht (by rw [sizeLine_eq]; omega)
theorem BoolsAre.snoc {vs : List Value} {bs : List Bool} (h : LSm.BoolsAre vs bs) (x : Bool) : LSm.BoolsAre (vs ++ [.bool x]) (bs ++ [x]) := by
  induction h with
  | nil => exact .cons _ .nil
  | cons y _ ih => exact .cons y ih
theorem all_true {h₀ : Heap} {L l : Addr} {m : Str → Option Value} {news : List (Addr × Obj)} {vs : List Value} {bs : List Bool} (F : Fr h₀ L s.heap m) (N : News h₀ L s.heap news) (hh : A.handled = none) (hl : s.heap.IsList l vs.toArray) (hb : LSm.BoolsAre vs bs) (ha : bs.all id = true)
    (h : ∀ h' tk, Fr h₀ L h' m → News h₀ L h' news → Q (.bool true) { s with heap := h', toks := tk }) : wpAny (model prog w) A (call (.builtin "all") [.ref l]) Q E s :=
  LSm.all_bools F N hh hl hb fun h' tk F' N' => by rw [ha]; exact h h' tk F' N'
theorem all_false {h₀ : Heap} {L l : Addr} {m : Str → Option Value} {news : List (Addr × Obj)} {vs : List Value} {bs : List Bool} (F : Fr h₀ L s.heap m) (N : News h₀ L s.heap news) (hh : A.handled = none) (hl : s.heap.IsList l vs.toArray) (hb : LSm.BoolsAre vs bs) (ha : bs.all id = false)
    (h : ∀ h' tk, Fr h₀ L h' m → News h₀ L h' news → Q (.bool false) { s with heap := h', toks := tk }) : wpAny (model prog w) A (call (.builtin "all") [.ref l]) Q E s :=
  LSm.all_bools F N hh hl hb fun h' tk F' N' => by rw [ha]; exact h h' tk F' N'
end
end Mine
end

/- Read -/
section
open PySem PySem.W PySem.Calls PyProof.Rows
theorem Mine.restRead {prog : Program} {w : World} {A : Around} {env : Env} {Q : Flow → Shared → Prop} {E : Value → Shared → Prop} {s : Shared} (h : ∀ f s', Q f s') : wpAny (model prog w) A (execs [] env) Q E s := by
  k_with_none
  w_top off
  walk1
  exact h _ _
end
section
open PySem PySem.W PySem.Calls PyProof.Rows
namespace Mine
theorem ln30 : True := by
  k_with "mine room" => row_timed "fresh" (((try simp only [depth_under_make, depth_under_kw, depth_in1, depth_deeper, units_in1, units_deeper]); (try dsimp only [cx, ktrTop]); (try simp only [cLine]); omega))
  trivial
local macro_rules | `(tactic| k_room) => `(tactic| ((try simp only [depth_under_make, depth_under_kw, depth_in1, depth_deeper]); (try dsimp only [cx, ktrTop]); (try dsimp only [recursionLimit]); omega))
theorem ln31 : True := by
  k_with "eval ListComp" => row_timed "fresh" ((k_here; (with_reducible show wpAny _ _ (eval (PySem.Expr.ListComp _ [⟨_, _, [], _⟩] _ _) _) _ _ _); k_dflt (refine ListComp_SU (F₀ := by k_asm) (by with_unfolding_all rfl) (by decide) (by rfl) (by decide) (by rfl) ?_)))
  k_with "sgs" => row_timed "fresh" (first | with_reducible assumption | (refine' Sg.append ?sa ?sb; (case sa => walk_at "sgs"); (case sb => walk_at "sgs")) | (refine' Sg.reverse ?sa; (case sa => walk_at "sgs")) | (refine' Sg.take ?sa _; (case sa => walk_at "sgs")) | exact Sg.nil)
  k_with "plainlen" => row_timed "fresh" (((try simp only [List.length_append, List.length_reverse, List.length_take]); omega))
  k_with "call builtin:str.join" => row_timed "fresh" ((k_here; (with_reducible show wpAny _ _ (call (Value.builtin "str.join") [Value.str _ _, Value.ref _]) _ _ _); k_dflt (refine' sg_join ?a ?s ?z ?_; (case a => exact News.get (by k_asm) (by k_mem)); (case s => walk_at "sgs"); (case z => walk_at "plainlen")); intro t' k' T' hT'))
  k_with "sign is" => row_timed "fresh" (first | exact blank_is | exact dash_is | rfl | decide +kernel)
  k_with "compareOp Eq str str" => row_timed "fresh" ((k_here; first | with_reducible refine eq_nil_no ?_ | ((with_reducible refine' eq_sign_no ?sa ?sb ?_); (case sa => walk_at "sign is"); (case sb => omega)) | ((with_reducible refine' eq_sign_yes ?sa ?sb ?_); (case sa => walk_at "sign is"); (case sb => omega))))
  k_with "compareOp NotEq str str" => row_timed "fresh" ((k_here; first | ((with_reducible refine' ne_sign_no ?sa ?sb ?_); (case sa => walk_at "sign is"); (case sb => omega)) | ((with_reducible refine' ne_sign_yes ?sa ?sb ?_); (case sa => walk_at "sign is"); (case sb => omega))))
  k_with "compareOp In str str" => row_timed "fresh" ((k_here; first | ((with_reducible refine' in_known ?sa ?_); (case sa => walk_at "known sign")) | with_reducible refine in_sign ?_))
  k_with "compareOp NotIn str str" => row_timed "fresh" ((k_here; first | ((with_reducible refine' notIn_known ?sa ?_); (case sa => walk_at "known sign")) | with_reducible refine notIn_sign ?_))
  k_with "subscriptTail Name Constant str int" => row_timed "fresh" ((k_here; (with_reducible show wpAny _ _ (subscriptTail _ _ (Value.str _ _) (Value.int 0 _)) _ _ _); k_dflt (refine' at0 ?_ ?s ?t; (case s => with_unfolding_all rfl); (case t => kmk_pure)); intro t' k'))
  k_with "subscriptTail Name Constant str int" => row_timed "fresh" ((k_here; (with_reducible show wpAny _ _ (subscriptTail _ _ (Value.str _ _) (Value.int 1 _)) _ _ _); k_dflt (refine' at1 ?_ ?s ?t; (case s => with_unfolding_all rfl); (case t => kmk_pure)); intro t' k'))
  k_with "call builtin:len" => row_timed "fresh" ((k_here; (with_reducible show wpAny _ _ (call (Value.builtin "len") [Value.str _ _]) _ _ _); (with_reducible refine' len_tx ?sa ?_); (case sa => walk_at "few signs"); intro t' k'))
  k_with "few signs" => row_timed "fresh" (((try simp only [tx_len, List.length_cons, List.length_nil]); omega))
  k_with "call builtin:ord" => row_timed "fresh" ((k_here; (with_reducible refine ord_sg ?_); intro t' k'))
  k_with "compareOp Lt int int" => row_timed "fresh" ((k_here; first | ((with_reducible refine' lt_no ?sa ?_); (case sa => walk_at "lengths")) | ((with_reducible refine' lt_yes ?sa ?_); (case sa => walk_at "lengths"))))
  k_with "lengths" => row_timed "fresh" (((try simp only [List.length_cons, List.length_nil]); omega))
  k_with "subscriptTail Name Slice str ref" => row_timed "fresh" ((k_here; (with_reducible show wpAny _ _ (subscriptTail _ (PySem.Expr.Slice (some _) none none _) (Value.str _ _) (Value.ref _)) _ _ _); k_dflt (refine' tail2 ?F ?N ?e ?l ?_ ?s ?t; (case F => k_asm); (case N => k_asm); (case e => first | exact from2 | exact from2s); (case l => walk_at "few signs"); (case s => with_unfolding_all rfl); (case t => kmk_pure)); intro h' t' k' F' N'; (try dsimp only at N'); (try k_sweep)))
  k_with "call builtin:all" => row_timed "fresh" ((k_here; (with_reducible show wpAny _ _ (call (Value.builtin "all") [Value.ref _]) _ _ _); k_dflt (refine' all_true ?F ?N ?hh ?hl ?hb ?ha ?_; (case F => k_asm); (case N => k_asm); (case hh => rfl); (case hl => exact News.isList (by k_asm) (by k_mem)); (case hb => assumption); (case ha => assumption)); intro h' tk' F' N'))
  k_with "exec If" => row_timed "fresh" ((k_here; (rename Cut 1 _ => hcut); refine' cut_next hcut ?_ ?_ <;> clear hcut))
  k_with "exec Assign" => row_timed "fresh" ((k_here; (rename Cut 2 _ => hcut); refine' cut_next hcut ?_ ?_ <;> clear hcut))
  k_with "exec If" => row_timed "fresh" ((k_here; (rename Cut 3 _ => hcut); refine' cut_next hcut (Stop.out ?_) ?_ <;> clear hcut))
  k_with "exec Assign" => row_timed "fresh" ((k_here; (rename Cut 4 _ => hcut); refine' cut_next hcut (Stop.out ?_) ?_ <;> clear hcut))
  trivial

theorem all_plain {l : List Nat} (h : ∀ c ∈ l, c < 128) : (tx l).cps.all (· < 128) = true := by
  simpa using h
theorem fc_lt {c : Nat} (h : c ∈ FC) : c < 128 := by
  have k : ∀ c ∈ FC, c < 128 := by decide
  exact k c h
def RJ (_i : Nat) (ys : List Value) (news : List (Addr × Obj)) : Prop := news = [] ∧ ∃ bs, LSm.BoolsAre ys bs ∧ bs.all id = true
theorem kinds_has {c : Nat} (h : c ∈ KC) : c ∈ (Str.ofString " w_.()'\"\\/$<>@!|").cps.toList := by
  have : ∀ c ∈ KC, c ∈ (Str.ofString " w_.()'\"\\/$<>@!|").cps.toList := by decide +kernel
  exact this c h
theorem flags_has {c : Nat} (h : c ∈ FC) : c ∈ (Str.ofString "1234bcnp").cps.toList := by
  rw [flags_cps]; simpa using h
theorem ln53 : True := by
  k_with "known sign" => row_timed "fresh" (first | exact kinds_has (by assumption) | exact flags_has (by assumption) | decide +kernel)
  k_with "call ref" => row_timed "fresh" ((k_here; (with_reducible show wpAny _ _ (call (Value.ref 95) [Value.str _ _]) _ _ _); k_dflt (refine' sorted_call ?k1 ?k2 ?k3 ?k4 ?k5 ?kk ?hT ?d1 ?d2 ?_; (case k1 => k_asm); (case k2 => k_asm); (case k3 => k_asm); (case k4 => k_asm); (case k5 => k_asm); (case kk => exact rfl); (case hT => exact rfl); (case d1 => walk_at "mine room"); (case d2 => walk_at "mine room"); k_whole); intro h' tk' T' t' F' N' hT'; (try dsimp only at N'); (try k_sweep); (try k_fold)))
  trivial
/-- the attributes of a syntax -/
def SynD (P : Params) (o : Obj) (k : Str) (mv : Value) (f : Str) : Prop := ∃ t1 t2 t3 u1 u3, o = dictOf [{ hash := PyData.keyHash P (Str.ofString "kind"), key := .str (Str.ofString "kind") t1, val := .str k u1 }, { hash := PyData.keyHash P (Str.ofString "match"), key := .str (Str.ofString "match") t2, val := mv }, { hash := PyData.keyHash P (Str.ofString "flags"), key := .str (Str.ofString "flags") t3, val := .str f u3 }] 3
theorem filter_sub {fl l : List Nat} (h : fl.Sublist l) (nd : l.Nodup) : l.filter (fun x => decide (x ∈ fl)) = fl := by
  induction h with
  | slnil => rfl
  | @cons fl l a h ih =>
    have na : a ∉ fl := fun z => (List.nodup_cons.mp nd).1 (h.subset z)
    rw [List.filter_cons, if_neg (by simpa using na)]
    exact ih (List.nodup_cons.mp nd).2
  | @cons_cons fl l a h ih =>
    have nd2 := (List.nodup_cons.mp nd)
    rw [List.filter_cons, if_pos (by simp)]
    congr 1
    refine Eq.trans (List.filter_congr fun x hx => ?_) (ih nd2.2)
    have : x ≠ a := fun z => nd2.1 (z ▸ hx)
    simp [this]
theorem flags_of {hs fl : List Nat} (h : ∀ x, x ∈ hs ↔ x ∈ fl) (hf : fl.Sublist FC) : FC.filter (fun x => decide (x ∈ hs)) = fl := by
  refine Eq.trans (List.filter_congr fun x _ => ?_) (filter_sub hf (by decide))
  exact decide_eq_decide.mpr (h x)
set_option maxHeartbeats 4000000 in
theorem read_core {prog : Program} {w : World} {p : Program} {loose : List Str} {mean : ExcName → Option Value} {mg mb : Str → Option Value} {dp un : Nat} {gd : Option (List Code)} {l : List Env} {s : Shared} {c c' m' : Nat} {mt : Option Int} {rest hs fl : List Nat} {t : Tok} {Q E : Value → Shared → Prop}
    (H : Here (hd.heap_1 w.params) p loose mean mg mb (cx dp un gd l) l [] s.heap) (hdp : dp + 60 < 1000) (hun : un + 300 < 9900)
    (hl : hs.length ≤ 20) (hk : (c' = 45 ∧ c = 32) ∨ (c' = c ∧ c' ≠ 45)) (hc : c ∈ KC) (hr : (rest = [] ∧ mt = none ∧ hs = []) ∨ rest = m' :: hs) (hm : (m' = 32 ∧ mt = none) ∨ ∃ m : Int, mt = some m ∧ m' = m.toNat ∧ 97 ≤ m ∧ m ≤ 99) (hh : ∀ x, x ∈ hs ↔ x ∈ fl) (hf : fl.Sublist FC)
    (ret : ∀ h' tk x d od mv T', Keep [] s.heap h' → h'.get? x = some (instObj 86 d) → h'.get? d = some od → SynD w.params od (sg c) mv T' → MtIs mv mt → T'.cps.toList = fl → s.heap.get? x = none → s.heap.get? d = none → x ≠ d → Q (.ref x) { s with heap := h', toks := tk }) :
    wpAny (model prog w) (cx dp un gd l) (call (.ref 100) [.str (tx (c' :: rest)) t]) Q E s := by
  refine wpAny_call ?_
  k_dflt (refine' enter (K := hd.heap_1 w.params) (p := p) (loose := loose) (mean := mean) (mg := mg) (mb := mb) (l := l) (binds := [((PySem.Str.ofString "text"), .str (tx (c' :: rest)) t)]) (D := []) ?H ?ND ?ho ?hcd ?hroom ?hbind ?hloc ?_ ?c2 ?c3 ?c4 ?c5; (case H => exact H); (case ho => k_is); (case hcd => k_is); (case hroom => (show dp < 1000; omega)); (case hbind => exact BindsTo.of_eq rfl); (case hloc => exact locs rfl); (case c2 => exact rfl); (case c3 => exact rfl); (case c4 => exact rfl); (case c5 => decide); k_whole)
  case ND => intro q hq; cases hq
  intro base g L' h₁ keep F' N' B' X' T' lt' sz'
  (try dsimp only)
  try k_fold
  have hc1 := cut 4 fun s' => ∃ h' tk tt, s' = { s with heap := h', toks := tk } ∧ Fr g L' h' (fun y => if y = Str.ofString "kind" then some (.str (sg c) tt) else List.lookup y [(Str.ofString "text", .str (tx (c' :: rest)) t)].reverse) ∧ News g L' h' []
  k_steps
  · (try unfold Stop)
    (try dsimp only)
    rcases hk with ⟨rfl, rfl⟩ | ⟨rfl, hk⟩
    all_goals (k_steps; (rename Fr _ _ _ _ => FF; rename News _ _ _ _ => NN); (try rw [blank_is] at FF); exact ⟨rfl, _, _, _, rfl, FF, NN⟩)
  unfold Stop
  (rename Fr _ _ _ _ => FF; rename News _ _ _ _ => NN; clear FF NN)
  rintro s' ⟨h2, tk2, tt, rfl, F2, N2⟩
  have hc2 := cut 4 fun s' => ∃ h' tk mv, s' = { s with heap := h', toks := tk } ∧ MtIs mv mt ∧ Fr g L' h' (fun y => if y = Str.ofString "match" then some mv else if y = Str.ofString "kind" then some (.str (sg c) tt) else List.lookup y [(Str.ofString "text", .str (tx (c' :: rest)) t)].reverse) ∧ News g L' h' []
  (try dsimp only)
  k_steps
  · unfold Stop
    rcases hr with ⟨rfl, rfl, rfl⟩ | rfl
    · k_steps
      (rename Fr _ _ _ _ => FF; rename News _ _ _ _ => NN)
      exact ⟨rfl, _, _, _, rfl, .none, FF, NN⟩
    · rcases hm with ⟨rfl, rfl⟩ | ⟨m, rfl, em, m1, m2⟩
      · k_steps
        (rename Fr _ _ _ _ => FF; rename News _ _ _ _ => NN)
        exact ⟨rfl, _, _, _, rfl, .none, FF, NN⟩
      · k_steps
        (rename Fr _ _ _ _ => FF; rename News _ _ _ _ => NN)
        exact ⟨rfl, _, _, _, rfl, by rw [em, Int.toNat_of_nonneg (by omega)]; exact .int _ _ m1 m2, FF, NN⟩
  unfold Stop
  (rename Fr _ _ _ _ => FF; rename News _ _ _ _ => NN; clear FF NN)
  rintro s' ⟨h3, tk3, mv, rfl, hmv, F3, N3⟩
  have hc3 := cut 4 fun s' => ∃ h' tk tf, s' = { s with heap := h', toks := tk } ∧ Fr g L' h' (fun y => if y = Str.ofString "flags" then some (.str (tx hs) tf) else if y = Str.ofString "match" then some mv else if y = Str.ofString "kind" then some (.str (sg c) tt) else List.lookup y [(Str.ofString "text", .str (tx (c' :: rest)) t)].reverse) ∧ News g L' h' []
  (try dsimp only)
  k_steps
  · unfold Stop
    rcases hr with ⟨rfl, rfl, rfl⟩ | rfl
    all_goals (k_steps; (rename Fr _ _ _ _ => FF; rename News _ _ _ _ => NN); exact ⟨rfl, _, _, _, rfl, FF, NN⟩)
  unfold Stop
  (rename Fr _ _ _ _ => FF; rename News _ _ _ _ => NN; clear FF NN)
  rintro s' ⟨h4, tk4, tf, rfl, F4, N4⟩
  (try dsimp only)
  have hkn := kinds_has hc
  have hhf : ∀ x ∈ hs, x ∈ FC := fun x hx => hf.subset ((hh x).mp hx)
  k_steps
  refine ⟨_, _, _, rfl, all_plain (fun x hx => fc_lt (hhf x hx)), rfl, by k_asm, by k_asm, by (rw [sizeLine_eq]; show (tx hs).length ≤ _; rw [tx_len]; omega), fun s₂ hs₂ => turnsU RJ ?turn ?fin _ 0 [] _ (Nat.zero_add _) ⟨rfl, [], .nil, rfl⟩⟩
  case turn =>
    obtain ⟨hx2, rfl⟩ := hs₂
    rintro i ys news v I oI C oC D m₂ h tk E' hi ⟨rfl, bs, hb, ha⟩ ⟨c2, u2, hc2, rfl⟩ hC hx F N off ne
    have hc3 : c2 ∈ FC := hhf c2 (by simpa using Array.mem_of_getElem? hc2)
    simp only [LCg.Off3] at off
    k_steps
    exact ⟨rfl, _, BoolsAre.snoc hb true, by simp [ha]⟩
  case fin =>
    obtain ⟨hx2, rfl⟩ := hs₂
    rintro ys news ⟨rfl, bs, hb, ha⟩
    k_steps
    (rename Fr _ _ _ _ => FF; rename News _ _ _ _ => NN)
    (rename (_ : Str).cps.toList = _ => hT'; rename (@LT.lt _ _ _ _) => l2)
    exact ret _ _ _ _ _ _ _ (fun b o e n => FF.keep b o (keep b o e n)) (NN.get (by k_mem)) (NN.get (by k_mem)) ⟨_, _, _, _, _, rfl⟩ hmv (by rw [hT']; simpa using flags_of hh hf) (fresh_of keep (News.new NN (by k_mem)) (by simp)) (fresh_of keep (News.new NN (by k_mem)) (by simp)) (Nat.ne_of_gt l2)
section
variable {prog : Program} {w : World} {p : Program} {loose : List Str} {mean : ExcName → Option Value} {mg mb : Str → Option Value} {dp un : Nat} {gd : Option (List Code)} {l : List Env} {s : Shared}
theorem mt_cases {mv : Value} {mt : Option Int} (h : MtIs mv mt) : mt = none ∨ ∃ m : Int, mt = some m ∧ 97 ≤ m ∧ m ≤ 99 := by
  cases h with
  | none => exact .inl rfl
  | int m t a b => exact .inr ⟨m, rfl, a, b⟩
theorem kc_45 {c : Nat} (h : c ∈ KC) : c ≠ 45 := by
  have : ∀ c ∈ KC, c ≠ 45 := by decide
  exact this c h
theorem read_desc {c : Nat} {mt : Option Int} {fl : List Nat} {T : Str} {t : Tok} {Q E : Value → Shared → Prop}
    (H : Here (hd.heap_1 w.params) p loose mean mg mb (cx dp un gd l) l [] s.heap) (hdp : dp + 60 < 1000) (hun : un + 300 < 9900) (hd : Desc c mt fl T.cps.toList) (hc : c ∈ KC) (hm : mt = none ∨ ∃ m : Int, mt = some m ∧ 97 ≤ m ∧ m ≤ 99) (hf : fl.Sublist FC)
    (ret : ∀ h' tk x d od mv T', Keep [] s.heap h' → h'.get? x = some (instObj 86 d) → h'.get? d = some od → SynD w.params od (sg c) mv T' → MtIs mv mt → T'.cps.toList = fl → s.heap.get? x = none → s.heap.get? d = none → x ≠ d → Q (.ref x) { s with heap := h', toks := tk }) :
    wpAny (model prog w) (cx dp un gd l) (call (.ref 100) [.str T t]) Q E s := by
  generalize e : T.cps.toList = ds at hd
  rw [tx_of e]
  have kk : ∀ {c'}, (c' = c ∨ (c' = 45 ∧ c = 32)) → (c' = 45 ∧ c = 32) ∨ (c' = c ∧ c' ≠ 45) := fun h => h.elim (fun h => .inr ⟨h, h ▸ kc_45 hc⟩) .inl
  cases hd with
  | short c' h1 h2 h3 => exact read_core (m' := 32) H hdp hun (hs := []) (by simp) (kk h1) hc (.inl ⟨rfl, h2, rfl⟩) (.inl ⟨rfl, h2⟩) (by subst h3; simp) hf ret
  | long c' hs h1 h2 h3 =>
    refine read_core (m' := mtSign mt) H hdp hun h3 (kk h1) hc (.inr rfl) ?_ h2 hf ret
    rcases hm with rfl | ⟨m, rfl, a, b⟩
    · exact .inl ⟨rfl, rfl⟩
    · exact .inr ⟨m, rfl, rfl, a, b⟩
end
section
variable {prog : Program} {w : World} {p : Program} {loose : List Str} {mean : ExcName → Option Value} {mg mb : Str → Option Value} {dp un : Nat} {gd : Option (List Code)} {s : Shared} {cn : Str} {cs : Scope} {L a : Addr} {ccd : Value} {cl : List (Str × Addr)} {outer : List Env} {A₀ : Around} {base h₀ : Heap} {m : Str → Option Value} {news : List (Addr × Obj)}
theorem read_call {c : Nat} {mt : Option Int} {fl : List Nat} {T : Str} {t : Tok} {Q E : Value → Shared → Prop}
    (B : Below A₀ base outer h₀) (F : Fr h₀ L s.heap m) (X : (hd.heap_1 w.params).In h₀) (N : News h₀ L s.heap news) (TP : Top p loose mean mg mb h₀) (hk : cs.kind = .function) (hdp : dp + 60 < 1000) (hun : un + 300 < 9900) (hd : Desc c mt fl T.cps.toList) (hc : c ∈ KC) (hm : mt = none ∨ ∃ m : Int, mt = some m ∧ 97 ≤ m ∧ m ≤ 99) (hf : fl.Sublist FC)
    (ret : ∀ h' tk x d od mv T', Fr h₀ L h' m → News h₀ L h' ((x, instObj 86 d) :: (d, od) :: news) → SynD w.params od (sg c) mv T' → MtIs mv mt → T'.cps.toList = fl → LCg.Off1 d news → LCg.Off1 x news → (@Ne Nat x d) → Q (.ref x) { s with heap := h', toks := tk }) :
    wpAny (model prog w) (ktrTop dp un gd cn cs L a ccd cl outer) (call (.ref 100) [.str T t]) Q E s :=
  read_desc (H := Here.of (D := []) (A := ktrTop dp un gd cn cs L a ccd cl outer) B F X (fun _ h => by cases h) TP rfl rfl hk) hdp hun hd hc hm hf fun h' tk x d od mv T' k e1 e2 hS hmv hT n1 n2 ne =>
    ret h' tk x d od mv T' (back0 F N k).1 (join F (join F (back0 F N k).2 n2 e2) n1 e1) hS hmv hT (off_of N n2) (off_of N n1) ne
end
end Mine
end

/- Exc -/
section
open PySem PySem.W PySem.Calls PyProof.Rows
theorem Mine.restExc {prog : Program} {w : World} {A : Around} {env : Env} {Q : Flow → Shared → Prop} {E : Value → Shared → Prop} {s : Shared} (h : ∀ f s', Q f s') : wpAny (model prog w) A (execs [] env) Q E s := by
  k_with_none
  w_top off
  walk1
  exact h _ _
end
section
open PySem PySem.W PySem.Calls PyProof.Rows
namespace Mine
section
variable {prog : Program} {w : World} {A : Around} {E : Value → Shared → Prop} {h : Heap} {g : Array GenState} {d : Drawn} {t : Nat} {os : OsState}
variable {nm q : Str} {C N : Addr} {bs bmB : List Value} {hdct : Bool} {sn : List Str} {sub : List Value} {ab : Bool} {col : Option Bool} {dd : Option Addr} {k0 k1 k2 k3 k5 : Option Value} {B newId initId : String}
abbrev excObj (C t : Addr) : Obj := { cls := .ref C, data := .fields #[.ref t, .none, .none, .none, .bool false, .none] }
abbrev argsObj (rest : List Value) : Obj := { cls := .type "tuple", data := .seq rest.toArray }

/-- an exception of its own with an __init__ is made -/
theorem type_call_init (F : ExcBaseFacts B newId initId bmB) {mN : Str → Option Value} {rest : List Value} {fI : Addr} {oI : Obj} {Q : Fin → Shared → Prop}
    (hC : h.get? C = some (excClassObj nm q C N bs bmB hdct sn sub ab col dd k0 k1 k2 k3 k5 newId)) (hn : h.Ns N mN) (hi : mN "__init__" = some (.ref fI)) (hfI : h.get? fI = some oI) (hfc : oI.cls = .type "function")
    (hq : wpAny (model prog w) A (call (.ref fI) (.ref (h.objs.size + 1) :: rest)) (fun r s' => r = .none ∧ Q (.done (.ret (.ref (h.objs.size + 1)))) s') E ⟨(h.push (argsObj rest)).push (excObj C h.objs.size), g, d, t, os⟩) (hrest : rest.length ≤ sizeLine) :
    wpAny (model prog w) A (Builtin.«type.__call__» ⟨.ref C :: rest, []⟩) Q E ⟨h, g, d, t, os⟩ := by
  repeat (first | with_reducible refine wpAny_loadPart_at hC ?_ | with_reducible refine wpAny_madeBy_exc hC ?_ | wp_step)
  refine codeAny_call_builtin_code (Code.quiet_builtin _ F.quiet) (wpAny_check_new_subU F F.hasB .base hC ?_)
  refine codeAny_exc_new_subU F F.hasB F .base hC ?_ hrest
  show wpAny _ _ _ _ _ _
  have k : ∀ b o, h.get? b = some o → ((h.push (argsObj rest)).push (excObj C h.objs.size)).get? b = some o := fun b o e => Heap.get?_push_of_some _ (Heap.get?_push_of_some _ e)
  have hC₁ := k _ _ hC
  have hfI₁ := k _ _ hfI
  have hn₁ : ((h.push (argsObj rest)).push (excObj C h.objs.size)).Ns N mN := hn.keeps k
  have hget : ((h.push (argsObj rest)).push (excObj C h.objs.size)).get? (h.objs.size + 1) = some (excObj C h.objs.size) := by heap_get
  have hcC : (Value.ref C :: bmB).contains (.ref C) = true := by simp
  unfold isInstance
  repeat (first | with_reducible refine wpAny_loadPart_at hget ?_ | (with_reducible refine wpAny_isSubtype_exc hC₁ ?_; rw [hcC]) | wp_step)
  show wpAny _ _ (typeLookup (.ref C) _) _ _ _
  refine wpAny_typeLookup_tail hC₁ hn₁ OwnTail.base F.mroIs F.init.lookup ?_
  rw [hi]
  refine wpAny_holding (wpAny_bind ?_)
  unfold bindSpecial
  refine wpAny_bind (wpAny_typeOf (T := "function") ⟨_, hfI₁, hfc⟩ ?_)
  rw [if_pos (by decide)]
  refine wpAny_pure (wpAny_bind (wpAny_mono hq (fun r s' hr => ?_) fun _ _ x => x))
  obtain ⟨rfl, hQ⟩ := hr
  wp_walk
  exact hQ

theorem call_init (F : ExcBaseFacts B newId initId bmB) {mN : Str → Option Value} {rest : List Value} {fI : Addr} {oI : Obj} {Q : Value → Shared → Prop}
    (hC : h.get? C = some (excClassObj nm q C N bs bmB hdct sn sub ab col dd k0 k1 k2 k3 k5 newId)) (hn : h.Ns N mN) (hi : mN "__init__" = some (.ref fI)) (hfI : h.get? fI = some oI) (hfc : oI.cls = .type "function")
    (hq : wpAny (model prog w) (A.under (.builtin "type.__call__" ⟨.ref C :: rest, []⟩)) (call (.ref fI) (.ref (h.objs.size + 1) :: rest)) (fun r s' => r = .none ∧ Q (.ref (h.objs.size + 1)) s') E ⟨(h.push (argsObj rest)).push (excObj C h.objs.size), g, d, t, os⟩) (hrest : rest.length ≤ sizeLine) :
    wpAny (model prog w) A (call (.ref C) rest) Q E ⟨h, g, d, t, os⟩ := by
  have f1 := tc_lookup
  have f2 := tc_bind (.ref C)
  have hT : (⟨h, g, d, t, os⟩ : Shared).TypeIs (.ref C) "type" := ⟨_, hC, rfl⟩
  refine wpAny_call (codeAny_of_tree ?_)
  show wpAny _ _ (callAny (.ref C) _) _ _ _
  repeat (any_goals (first | assumption | with_reducible refine wpAny_loadPart_at hC ?_ | wp_step))
  refine ⟨rfl, ?_⟩
  refine codeAny_call_builtin_at (Code.quiet_builtin _ (by decide +kernel)) entry_typeCall (wpAny_check_type_call_sub hC (type_call_init F hC hn hi hfI hfc ?_ hrest))
  exact hq
end
theorem mro_exc : mroOf (.type "Exception") = pure [.type "Exception", .type "BaseException", .type "object"] := by kernel_rfl
theorem no_symbol : typeLookup (.type "Exception") (Str.ofString "symbol") = pure none := by rw [typeLookup_type, builtinLookup_eq_fast]; kernel_rfl
theorem no_data : typeLookup (.type "Exception") (Str.ofString "data") = pure none := by rw [typeLookup_type, builtinLookup_eq_fast]; kernel_rfl
open Builtin Builtin.ObjectAttr
section
variable {prog : Program} {w : World} {A : Around} {E : Value → Shared → Prop} {h : Heap} {g : Array GenState} {d : Drawn} {t : Nat} {os : OsState}
variable {nm q : Str} {C N x : Addr} {bs : List Value} {sn : List Str} {sub : List Value} {ab : Bool} {col : Option Bool} {dd : Option Addr} {k0 k1 k2 k3 k5 : Option Value} {newId : String}
  {mN mA : Str → Option Value} {name : Str} {v : Value}
abbrev excMro : List Value := [.type "Exception", .type "BaseException", .type "object"]
theorem no_hook : typeLookup (.type "Exception") "__getattr__" = pure none := by rw [typeLookup_type, builtinLookup_eq_fast]; kernel_rfl
theorem exc_entry {tk : Tok} {Q : Fin → Shared → Prop}
    (hC : h.get? C = some (excClassObj nm q C N bs excMro true sn sub ab col dd k0 k1 k2 k3 k5 newId)) (hn : h.Ns N mN) (hna : mN name = none)
    (hB : typeLookup (.type "Exception") name = pure none) (I : h.InstFk x C mA) (hv : mA name = some v) (hq : Q (.done (.ret v)) ⟨h, g, d, t, os⟩) :
    wpAny (model prog w) A (Builtin.«object.__getattribute__» ⟨[.ref x, .str name tk], []⟩) Q E ⟨h, g, d, t, os⟩ := by
  obtain ⟨o, hx, hc, hnc, hd⟩ := I
  rcases hd with ⟨_, hmA⟩ | ⟨dx, hdx, hne, hns, _⟩
  · rw [hmA name] at hv; cases hv
  unfold Builtin.«object.__getattribute__»
  repeat (first | (with_reducible refine wpAny_loadPart_at hx ?_; rw [hc]) | (with_reducible refine wpAny_typeLookup_exc hC hn mro_exc hB ?_; rw [hna]) | wp_step)
  split
  · rename_i c hcd
    exact absurd hcd (hnc c)
  unfold instanceDict
  repeat (first | (with_reducible refine wpAny_loadPart_at hx ?_; rw [hc]) | with_reducible refine wpAny_loadPart_at hC ?_ | wp_step)
  rw [hdx]
  repeat (first | (with_reducible refine wpAny_nsGet hns.ns ?_; rw [hv]) | wp_step)
  exact hq

theorem exc_attr {expr : Bool} {Q : Value → Shared → Prop} (FB : ExcAttrBase "Exception" excMro)
    (hC : h.get? C = some (excClassObj nm q C N bs excMro true sn sub ab col dd k0 k1 k2 k3 k5 newId)) (hn : h.Ns N mN) (hng : mN "__getattribute__" = none) (hnh : mN "__getattr__" = none) (hna : mN name = none)
    (hB : typeLookup (.type "Exception") name = pure none) (I : h.InstFk x C mA) (hv : mA name = some v) (hh : handedOut v = pure v) (hq : Q v ⟨h, g, d, t + 1, os⟩) :
    wpAny (model prog w) A (getAttr (.ref x) name expr) Q E ⟨h, g, d, t, os⟩ := by
  obtain ⟨o, hx, hc, _⟩ := id I
  have f3 := FB.ga.bind (.ref x)
  have hx0 : (expr && onTheHeap (Value.builtin "BaseException.__getattribute__")) = false := by cases expr <;> rfl
  have hx2 : (Value.builtin "BaseException.__getattribute__" == Value.builtin "object.__getattribute__") = false := by decide +kernel
  have hx1 : (onTheHeap (Value.ref C) && Value.builtin "BaseException.__getattribute__" == Value.builtin "object.__getattribute__") = false := by rw [hx2]; rfl
  unfold getAttr getAttrBy
  repeat (any_goals (first | assumption | (with_reducible refine wpAny_loadPart_at hx ?_; rw [hc]) | (with_reducible refine wpAny_typeLookup_exc hC hn mro_exc FB.ga.lookup ?_; rw [hng]) | (with_reducible refine wpAny_typeLookup_exc hC hn mro_exc FB.noGetattr ?_; rw [hnh]) | wp_step))
  refine codeAny_call_builtin FB.ga.plain F.entry_bexc_ga (wpAny_check_ga_own FB hC .base hx hc (exc_entry hC hn hna hB I hv ?_))
  repeat (any_goals (first | assumption | wp_step))
end
end Mine
end

/- Exc2 -/
section
open PySem PySem.W PySem.Calls PyProof.Rows
theorem Mine.restExc2 {prog : Program} {w : World} {A : Around} {env : Env} {Q : Flow → Shared → Prop} {E : Value → Shared → Prop} {s : Shared} (h : ∀ f s', Q f s') : wpAny (model prog w) A (execs [] env) Q E s := by
  k_with_none
  w_top off
  walk1
  exact h _ _
end
section
open PySem PySem.W PySem.Calls PyProof.Rows
namespace Mine
open Builtin Builtin.ObjectAttr
section
variable {prog : Program} {w : World} {A : Around} {E : Value → Shared → Prop} {h : Heap} {g : Array GenState} {d : Drawn} {t : Nat} {os : OsState}
variable {nm q : Str} {C N x t0 : Addr} {bs : List Value} {sn : List Str} {sub : List Value} {ab : Bool} {col : Option Bool} {dd : Option Addr} {k0 k1 k2 k3 k5 : Option Value} {newId : String}
  {mN : Str → Option Value} {name : Str} {v : Value}
/-- the first attribute of an exception: its dict is made -/
theorem exc_store0 {tk : Tok} {o : Obj} {Q : Fin → Shared → Prop}
    {B sa owner : String} {bm : List Value} (SF : StoreFacts B bm sa owner) (hC : h.get? C = some (excClassObj nm q C N bs bm true sn sub ab col dd k0 k1 k2 k3 k5 newId)) (hn : h.Ns N mN) (hna : mN name = none)
    (hB : typeLookup (.type B) name = pure none) (hx : h.get? x = some o) (hc : o.cls = .ref C) (hnc : ∀ c, o.data ≠ .cls c) (hdn : o.dict = none)
    (hq : ∀ h' tk', h'.InstFk x C (fun y => if y = name then some v else none) → (∀ b o, b ≠ x → h.get? b = some o → h'.get? b = some o) → h'.get? x = some { cls := o.cls, dict := some h.objs.size, data := o.data, slots := o.slots } → Q (.done (.ret .none)) ⟨h', g, d, tk', os⟩) :
    wpAny (model prog w) A (Builtin.«object.__setattr__» ⟨[.ref x, .str name tk, v], []⟩) Q E ⟨h, g, d, t, os⟩ := by
  have hpass := SF.passes (.ref x)
  unfold Builtin.«object.__setattr__»
  repeat (first | rw [refuse_eq] | (rw [refuseLoop_ref, hpass]) | (with_reducible refine wpAny_loadPart_at hx ?_; rw [hc]) | with_reducible refine wpAny_mroOf_exc hC ?_ | (with_reducible refine wpAny_typeLookup_exc hC hn SF.mro hB ?_; rw [hna]) | wp_step)
  rw [hdn, if_neg (by simp [typeHasDict])]
  split
  · rename_i hcd
    cases hcd
  split
  · rename_i c hcd
    exact absurd hcd (hnc c)
  have hx₁ : (h.push { cls := .type "dict", data := .dict #[] }).get? x = some o := Heap.get?_push_of_some _ hx
  have hxs : x ≠ h.objs.size := Nat.ne_of_lt (Heap.lt_size hx)
  refine wpAny_bind (wpAny_alloc' (wpAny_bind (wpAny_update' hx₁ (wpAny_pure ?_))))
  have hgd : ((h.push { cls := .type "dict", data := .dict #[] }).update x fun o => { cls := o.cls, dict := some h.objs.size, data := o.data, slots := o.slots }).get? h.objs.size = some { cls := .type "dict", data := .dict #[] } :=
    (Heap.get?_update_ne _ _ _ _ hxs.symm).trans (Heap.get?_push_at rfl rfl)
  have hnd : ((h.push { cls := .type "dict", data := .dict #[] }).update x fun o => { cls := o.cls, dict := some h.objs.size, data := o.data, slots := o.slots }).Ns h.objs.size (fun _ => none) :=
    ⟨_, #[], _, hgd, rfl, fun e he => absurd he (by simp), fun _ => rfl⟩
  show wpAny _ _ (storeInDict h.objs.size (.str name tk) name v) _ _ _
  unfold storeInDict newKeyGuard
  refine wpAny_bind (wpAny_pure (wpAny_bind (wpAny_nsSet1EFk (Heap.Ns1.of_empty hnd) fun h' hn' hs hkeepD => ?_)))
  obtain ⟨oD, esD, epD, hoD, hdD, hcD⟩ := hn'.count (Within.cons name v Within.nil)
  refine wpAny_bind (wpAny_lookBehind hoD (by rw [hdD]; exact pastItsLine_dict (Nat.le_trans hcD (by rw [List.length_cons, List.length_nil, sizeLine_eq]; omega))) ?_)
  wp_walk
  have hxu : ((h.push { cls := .type "dict", data := .dict #[] }).update x fun o => { cls := o.cls, dict := some h.objs.size, data := o.data, slots := o.slots }).get? x = some { cls := o.cls, dict := some h.objs.size, data := o.data, slots := o.slots } := by
    refine Heap.get?_update_self _ hx₁ ?_
    have hfr := (Heap.get?_some_iff.mp hx).2
    obtain ⟨oc, od, odt, osl⟩ := o
    cases odt <;> first | rfl | exact hfr
  have hx' := (hs.2 x hxs).trans hxu
  exact hq h' _ ⟨_, hx', hc, hnc, .inr ⟨h.objs.size, rfl, hxs.symm, hn', (let ⟨od', e', c', d'⟩ := hkeepD _ hgd; ⟨od', e', c', d'⟩)⟩⟩
    (fun b ob hbx hb => (hs.2 b (Nat.ne_of_lt (Heap.lt_size hb))).trans ((Heap.get?_update_ne _ _ _ _ hbx).trans (Heap.get?_push_of_some _ hb))) hx'
theorem exc_store1 {o : Obj} {Q : Unit → Shared → Prop}
    {B sa owner : String} {bm : List Value} (SF : StoreFacts B bm sa owner) (hC : h.get? C = some (excClassObj nm q C N bs bm true sn sub ab col dd k0 k1 k2 k3 k5 newId)) (hn : h.Ns N mN) (hns : mN "__setattr__" = none) (hna : mN name = none)
    (hB : typeLookup (.type B) name = pure none) (hx : h.get? x = some o) (hc : o.cls = .ref C) (hnc : ∀ c, o.data ≠ .cls c) (hdn : o.dict = none)
    (hq : ∀ h' tk', h'.InstFk x C (fun y => if y = name then some v else none) → (∀ b o, b ≠ x → h.get? b = some o → h'.get? b = some o) → h'.get? x = some { cls := o.cls, dict := some h.objs.size, data := o.data, slots := o.slots } → Q () ⟨h', g, d, tk', os⟩) :
    wpAny (model prog w) A (setAttr (.ref x) name v) Q E ⟨h, g, d, t, os⟩ := by
  have f3 := SF.slot.bind (.ref x)
  unfold setAttr callSpecial? specialOf
  repeat (any_goals (first | assumption | (with_reducible refine wpAny_loadPart_at hx ?_; rw [hc]) | (with_reducible refine wpAny_typeLookup_exc hC hn SF.mro SF.slot.lookup ?_; rw [hns]) | wp_step))
  refine codeAny_call_builtin SF.slot.plain SF.entry (wpAny_check_sa SF hC hx hc (exc_store0 SF hC hn hna hB hx hc hnc hdn fun h' tk' I' hk hx' => ?_))
  repeat (any_goals (first | assumption | wp_step))
  exact hq h' tk' I' hk hx'
end
section
variable {P : Params} {h : Heap}
theorem sig_cls (X : (hd.heap_1 P).In h) : ∃ nm q bs sn sub ab col dd k0 k1 k2 k3 k5, h.get? 38 = some (excClassObj nm q 38 37 bs excMro true sn sub ab col dd k0 k1 k2 k3 k5 "Exception.__new__") :=
  ⟨_, _, _, _, _, _, _, _, _, _, _, _, _, X _ _ (by with_unfolding_all rfl)⟩
theorem sig_ns (X : (hd.heap_1 P).In h) : h.Ns 37 (h.nsMap 37) := .of_isNs (isNs_of_in X (by with_unfolding_all rfl))
theorem sig_none (X : (hd.heap_1 P).In h) {n : Str} (e : nsIn (hd.heap_1 P) 37 n = some none) : h.nsMap 37 n = none := nsMap_none_of_in X (by with_unfolding_all rfl) e
theorem sig_no1 (P : Params) : nsIn (hd.heap_1 P) 37 "__setattr__" = some none := by with_unfolding_all rfl
theorem sig_no2 (P : Params) : nsIn (hd.heap_1 P) 37 "__getattribute__" = some none := by with_unfolding_all rfl
theorem sig_no3 (P : Params) : nsIn (hd.heap_1 P) 37 "__getattr__" = some none := by with_unfolding_all rfl
theorem sig_no4 (P : Params) : nsIn (hd.heap_1 P) 37 (Str.ofString "symbol") = some none := by with_unfolding_all rfl
theorem sig_no5 (P : Params) : nsIn (hd.heap_1 P) 37 (Str.ofString "data") = some none := by with_unfolding_all rfl
theorem sig_in (P : Params) : nsIn (hd.heap_1 P) 37 "__init__" = some (some (.ref 35)) := by with_unfolding_all rfl
theorem sig_init (X : (hd.heap_1 P).In h) : h.nsMap 37 "__init__" = some (.ref 35) := by
  have e := sig_in P
  obtain ⟨o, es, ep, ho, hd', _, hf⟩ := sig_ns X
  unfold nsIn at e
  split at e
  · rename_i c d es' n' sl q
    have := X _ _ q
    rw [ho] at this
    cases this
    cases hd'
    rw [← hf]
    unfold nsFind findBy
    rw [← Array.find?_toList]
    split at e
    · rename_i x hx
      rw [hx]
      simpa using e
    · split at e <;> cases e
  · cases e
end
end Mine
end

/- Sig -/
section
open PySem PySem.W PySem.Calls PyProof.Rows
theorem Mine.restSig {prog : Program} {w : World} {A : Around} {env : Env} {Q : Flow → Shared → Prop} {E : Value → Shared → Prop} {s : Shared} (h : ∀ f s', Q f s') : wpAny (model prog w) A (execs [] env) Q E s := by
  k_with_none
  w_top off
  walk1
  exact h _ _
end
section
open PySem PySem.W PySem.Calls PyProof.Rows
namespace Mine
theorem ln55 : True := by
  k_with "mine room" => row_timed "fresh" (((try simp only [depth_under_make, depth_under_kw, depth_in1, depth_deeper, units_in1, units_deeper]); (try dsimp only [cx, ktrTop]); (try simp only [cLine]); omega))
  trivial
local macro_rules | `(tactic| k_room) => `(tactic| ((try simp only [depth_under_make, depth_under_kw, depth_in1, depth_deeper]); (try dsimp only [cx, ktrTop]); (try dsimp only [recursionLimit]); omega))

theorem ln56 : True := by
  k_with "setAttr ref" => row_timed "fresh" ((k_here; refine Stop.out ?_))
  trivial
abbrev sigO (t dx : Addr) : Obj := { cls := .ref 38, dict := some dx, data := .fields #[.ref t, .none, .none, .none, .bool false, .none] }
set_option maxHeartbeats 4000000 in
theorem init_spec {prog : Program} {w : World} {p : Program} {loose : List Str} {mean : ExcName → Option Value} {mg mb : Str → Option Value} {dp un : Nat} {gd : Option (List Code)} {l : List Env} {s : Shared} {e t : Addr} {S : Str} {ts : Tok} {dv : Value} {Q E : Value → Shared → Prop}
    (H : Here (hd.heap_1 w.params) p loose mean mg mb (cx dp un gd l) l [e] s.heap) (he : s.heap.get? e = some (excObj 38 t)) (hdp : dp + 60 < 1000) (hun : un + 300 < 9900)
    (ret : ∀ h' tk, Keep [e] s.heap h' → h'.InstFk e 38 (fun y => if y = Str.ofString "data" then some dv else if y = Str.ofString "symbol" then some (.str S ts) else none) → (∃ dx, h'.get? e = some (sigO t dx)) → Q .none { s with heap := h', toks := tk }) :
    wpAny (model prog w) (cx dp un gd l) (call (.ref 35) [.ref e, .str S ts, dv]) Q E s := by
  refine wpAny_call ?_
  k_dflt (refine' enter (K := hd.heap_1 w.params) (p := p) (loose := loose) (mean := mean) (mg := mg) (mb := mb) (l := l) (binds := [((PySem.Str.ofString "self"), .ref e), ((PySem.Str.ofString "symbol"), .str S ts), ((PySem.Str.ofString "data"), dv)]) (D := [(e, excObj 38 t)]) ?H ?ND ?ho ?hcd ?hroom ?hbind ?hloc ?_ ?c2 ?c3 ?c4 ?c5; (case H => exact H); (case ho => k_is); (case hcd => k_is); (case hroom => (show dp < 1000; omega)); (case hbind => exact BindsTo.of_eq rfl); (case hloc => exact locs rfl); (case c2 => exact rfl); (case c3 => exact rfl); (case c4 => exact rfl); (case c5 => decide); k_whole)
  case ND => 
    intro q hq
    simp only [List.mem_cons, List.not_mem_nil, or_false] at hq
    rcases hq with rfl
    exact he
  intro base g L' h₁ keep F' N' B' X' T' lt' sz'
  k_lt lt'
  (try dsimp only)
  try k_fold
  k_steps
  unfold Stop
  have he1 := (N' (e, excObj 38 t) (.head _)).1
  have hne : L' ≠ e := fun z => (N' (e, excObj 38 t) (.head _)).2.1 z.symm
  have hge : g.get? e = none := (N' (e, excObj 38 t) (.head _)).2.2
  have X1 := X'.keeps F'.keep
  obtain ⟨nm, q, bs, sn, sub, ab, col, dd, k0, k1, k2, k3, k5, hC⟩ := sig_cls X1
  refine exc_store1 F.store_Exception hC (sig_ns X1) (sig_none X1 (sig_no1 _)) (sig_none X1 (sig_no4 _)) no_symbol he1 rfl (fun c z => by cases z) rfl fun h2 tk2 I2 kp2 hx2 => ?_
  have F2 : Fr g L' h2 _ := Keep.fr (D := [e]) (fun b o hb hn => kp2 b o (by simpa using hn) hb) F' (by simpa using hne) (by simpa using hge)
  have N2 : News g L' h2 [] := News.none
  have hd1 : g.objs.size ≤ h₁.objs.size := Nat.le_trans F'.above (Nat.le_of_lt (F'.ns.lt))
  have hlt : ∀ b o, g.get? b = some o → b < h₁.objs.size := fun b o z => Heap.lt_size (F'.keep _ _ z)
  have hLlt : L' < h₁.objs.size := F'.ns.lt
  clear F' N' hC X1
  (try dsimp only)
  k_steps
  unfold Stop
  have X1 := X'.keeps F2.keep
  obtain ⟨nm, q, bs, sn, sub, ab, col, dd, k0, k1, k2, k3, k5, hC⟩ := sig_cls X1
  have hxC : e ≠ 38 := fun z => by
    subst z
    rw [hx2] at hC; cases hC
  refine store_attrFk F.store_Exception hC (sig_ns X1) (sig_none X1 (sig_no1 _)) (sig_none X1 (sig_no5 _)) no_data hxC I2 fun h3 tk3 I3 kp3 ho3 => ?_
  have k3 : ∀ b o, b ≠ e → b < h₁.objs.size → h2.get? b = some o → h3.get? b = some o := fun b o z1 z2 z3 => kp3 b o z1 (fun o₀ dx z4 z5 => by rw [hx2] at z4; cases z4; cases z5; exact Nat.ne_of_lt z2) z3
  have F3 : Fr g L' h3 _ := ⟨by
    obtain ⟨oL, es, ep, hLg, r⟩ := F2.ns
    exact ⟨oL, es, ep, k3 _ _ hne hLlt hLg, r⟩, fun b o z => k3 b o (fun q => by subst q; rw [hge] at z; cases z) (hlt _ _ z) (F2.keep b o z), F2.above⟩
  have N3 : News g L' h3 [] := News.none
  clear F2 N2
  (try dsimp only)
  k_steps
  obtain ⟨o1, y1, y2, y3, y4, y5⟩ := ho3 _ hx2
  obtain ⟨c1, d1, t1, l1⟩ := o1
  cases y2; cases y3; cases y4; cases (y5 _ rfl)
  exact ret _ _ (fun b o z1 z2 => F3.keep b o (keep b o z1 z2)) I3 ⟨_, y1⟩
open Sem (wp)
section
variable {M : Model} {A : Around} {E : Value → Shared → Prop} {s : Shared} {env : Env}
def SigRaised (E : Value → Shared → Prop) (v : Value) (s₁ : Shared) : Prop :=
  ∃ e t dx, v = .ref e ∧ (∃ nm q bs sn sub ab col dd k0 k1 k2 k3 k5, s₁.heap.get? 38 = some (excClassObj nm q 38 37 bs excMro true sn sub ab col dd k0 k1 k2 k3 k5 "Exception.__new__")) ∧ s₁.heap.get? e = some (sigO t dx) ∧ E (.ref e) s₁
theorem Raise_sig {e : PySem.Expr} {pos : Pos} {Q : Flow → Shared → Prop} (hh : A.handled = none) (h : wpAny M A (eval e env) (SigRaised E) E s) : wpAny M A (exec (.Raise (some e) none pos) env) Q E s := by
  show wpAny M A (do standAt pos; raiseStmt env (some (do let v ← eval e env; standAt pos; pure v)) none) Q E s
  refine wpAny_bind (wpAny_standAt ?_)
  have hcB : (Value.ref 38 :: excMro).contains (.type "BaseException") = true := by decide +kernel
  unfold raiseStmt
  refine wpAny_bind (wpAny_bind (wpAny_mono h (fun v s₁ h₁ => wpAny_bind (wpAny_standAt (wpAny_pure ?_))) fun _ _ x => x))
  obtain ⟨e, t, dx, rfl, ⟨nm, q, bs, sn, sub, ab, col, dd, k0, k1, k2, k3, k5, hC⟩, he, hE⟩ := h₁
  obtain ⟨hp, g, d, tk, os⟩ := s₁
  repeat (first | with_reducible refine wpAny_loadPart_at he ?_ | with_reducible refine wpAny_loadPart_at hC ?_ | (with_reducible refine wpAny_isSubtype_exc hC ?_; rw [hcB]) | wp_step)
  exact wpAny_raiseNew_none hh hE
end
section
variable {prog : Program} {w : World} {p : Program} {loose : List Str} {mean : ExcName → Option Value} {mg mb : Str → Option Value} {dp un : Nat} {gd : Option (List Code)} {s : Shared} {cn : Str} {cs : Scope} {L a : Addr} {ccd : Value} {cl : List (Str × Addr)} {outer : List Env} {A₀ : Around} {base h₀ : Heap} {m : Str → Option Value} {news : List (Addr × Obj)}
theorem sig_fn (P : Params) : ∃ o, (hd.heap_1 P).lookup 35 = some o ∧ o.cls = .type "function" := ⟨_, by with_unfolding_all rfl, by with_unfolding_all rfl⟩
theorem signal_call {S : Str} {ts : Tok} {dv : Value} {Q E : Value → Shared → Prop}
    (B : Below A₀ base outer h₀) (F : Fr h₀ L s.heap m) (X : (hd.heap_1 w.params).In h₀) (N : News h₀ L s.heap news) (TP : Top p loose mean mg mb h₀) (hk : cs.kind = .function) (hdp : dp + 80 < 1000) (hun : un + 400 < 9900)
    (ret : ∀ h' tk e t dx, Fr h₀ L h' m → News h₀ L h' ((e, sigO t dx) :: news) → h'.InstFk e 38 (fun y => if y = Str.ofString "data" then some dv else if y = Str.ofString "symbol" then some (.str S ts) else none) → LCg.Off1 e news → Q (.ref e) { s with heap := h', toks := tk }) :
    wpAny (model prog w) (ktrTop dp un gd cn cs L a ccd cl outer) (call (.ref 38) [.str S ts, dv]) Q E s := by
  obtain ⟨hp, g, d, tk, os⟩ := s
  have X1 := X.keeps F.keep
  obtain ⟨nm, q, bs, sn, sub, ab, col, dd, k0, k1, k2, k3, k5, hC⟩ := sig_cls X1
  obtain ⟨oI, eI, fI⟩ := sig_fn w.params
  refine call_init PySem.F.excBase_Exception hC (sig_ns X1) (sig_init X1) (X1 _ _ eI) fI ?_ (by rw [sizeLine_eq]; show 2 ≤ _; decide)
  have F1 := (F.push (argsObj [.str S ts, dv])).push (excObj 38 hp.objs.size)
  have N1 := (N.push F (argsObj [.str S ts, dv])).push (F.push _) (excObj 38 hp.objs.size)
  rw [Heap.size_push] at N1
  have hs : hp.get? (hp.objs.size + 1) = none := Heap.get?_none_of_le (Nat.le_succ _)
  refine init_spec (s := ⟨(hp.push (argsObj [.str S ts, dv])).push (excObj 38 hp.objs.size), g, d, tk, os⟩) (H := Here.of (D := [(hp.objs.size + 1, excObj 38 hp.objs.size)]) (A := ((ktrTop dp un gd cn cs L a ccd cl outer).under _)) B F1 X (fun _ h => by cases h with | head => exact N1 _ (.head _) | tail _ h => cases h) TP rfl rfl hk) (N1 _ (.head _)).1 (by show dp + 1 + 60 < 1000; omega) (by show un + 1 + 300 < 9900; omega) ?_
  intro h' tk' k I ⟨dx, e1⟩
  have kk : Keep [] hp h' := fun b o z _ => k b o (Heap.get?_push_of_some _ (Heap.get?_push_of_some _ z)) (fun y => by
    simp only [List.mem_cons, List.not_mem_nil, or_false] at y
    subst y; rw [hs] at z; cases z)
  exact ⟨rfl, ret h' tk' _ _ dx (back0 (s := ⟨hp, g, d, tk, os⟩) F N kk).1 (join (h := hp) F (back0 (s := ⟨hp, g, d, tk, os⟩) F N kk).2 hs e1) I (off_of N hs)⟩
end
end Mine
end

/- Note -/
section
open PySem PySem.W PySem.Calls PyProof.Rows
theorem Mine.restNote {prog : Program} {w : World} {A : Around} {env : Env} {Q : Flow → Shared → Prop} {E : Value → Shared → Prop} {s : Shared} (h : ∀ f s', Q f s') : wpAny (model prog w) A (execs [] env) Q E s := by
  k_with_none
  w_top off
  walk1
  exact h _ _
end
section
open PySem PySem.W PySem.Calls PyProof.Rows
namespace Mine
/-- all objects stay, but the frames' slots -/
def Up (F : List Addr) (e : Addr) (h h' : Heap) : Prop :=
  (∀ b o, b ≠ e → b ∉ F → h.get? b = some o → h'.get? b = some o) ∧ (∀ b o, b ≠ e → b ∈ F → h.get? b = some o → ∃ sl, h'.get? b = some { o with slots := sl })
theorem Up.trans {F : List Addr} {e : Addr} {h h' h'' : Heap} (a : Up F e h h') (b : Up F e h' h'') : Up F e h h'' :=
  ⟨fun x o n m g => b.1 x o n m (a.1 x o n m g), fun x o n m g => by
    obtain ⟨sl, g'⟩ := a.2 x o n m g
    obtain ⟨sl', g''⟩ := b.2 x _ n m g'
    exact ⟨sl', g''⟩⟩
section
variable {M : Model} {A : Around} {E : Value → Shared → Prop} {s : Shared}
theorem note_entry {base : Heap} {env : Env} {outer : List Env} {L e : Addr} {oe : Obj} {vs : Array Value} {head : Value} {hadNext : Bool} {Q : Unit → Shared → Prop}
    (hfr : A.frames = some (env :: outer)) (hl : s.heap.FunFrames base (env :: outer)) (hf : env.frame = some L)
    (he : s.heap.get? e = some oe) (hd : oe.data = .fields vs) (hsz : 1 < vs.size)
    (h : ∀ h' T oT ts, Up ((env :: outer).filterMap (·.frame)) e s.heap h' → h'.get? e = some (Obj.mapFields (·.setIfInBounds 1 (.ref T)) oe) → s.heap.get? T = none → T ≠ e → h'.get? T = some oT → oT.data = .fields ts → ts[3]? = some (rawInt L) → Q () { s with heap := h' }) :
    wpAny M A (do let a ← frameOf env; let pl ← entryPlaceOf L hadNext; let b ← EntryCells.newEntry head a .none (rawInt L) .none pl; setField (.ref e) 1 b) Q E s := by
  have hene : e ∉ (env :: outer).filterMap (·.frame) := fun hm => by
    obtain ⟨_, o, ho, hnf⟩ := hl.mem hm
    rw [he] at ho; injection ho with ho; subst ho; exact hnf vs hd
  refine wpAny_bind (wpAny_frameOf_fun hfr hl hf fun h₁ hs₁ => wpAny_bind (wpAny_entryPlaceOf fun pl hpl => ?_))
  unfold EntryCells.newEntry newFields
  refine wpAny_bind (wpAny_newObj_type ?_ (hpl.sizeOk5 _ _ _ _ _))
  have he₁ : h₁.get? e = some oe := (hs₁.2.1 e hene).trans he
  generalize hob : ({ cls := .type "traceback", dict := none, data := .fields ([head, .ref L, .none, rawInt L, .none] ++ (if pl.isEmpty then List.replicate 6 Value.none else pl)).toArray } : Obj) = ob
  have he₂ := Heap.get?_push_of_some (h := h₁) ob he₁
  refine wpAny_setField he₂ hd hsz ?_
  have hTe : h₁.objs.size ≠ e := Nat.ne_of_gt (Heap.lt_size he₁)
  refine h _ h₁.objs.size ob _ ⟨fun b o hbe hm hb => ?_, fun b o hbe hm hb => ?_⟩ (Heap.get?_update_self _ he₂ (Obj.isFreed_of_fields (Obj.data_mapFields hd _))) ?_ hTe ?_ (by rw [← hob]) (by simp)
  · rw [Heap.get?_update_other _ _ (Ne.symm hbe)]
    exact Heap.get?_push_of_some _ ((hs₁.2.1 b hm).trans hb)
  · obtain ⟨sl, hsl⟩ := hs₁.2.2 b o hb
    refine ⟨sl, ?_⟩
    rw [Heap.get?_update_other _ _ (Ne.symm hbe)]
    exact Heap.get?_push_of_some _ hsl
  · exact Heap.get?_none_of_le (by rw [hs₁.1]; exact Nat.le_refl _)
  · rw [Heap.get?_update_other _ _ (Ne.symm hTe)]
    exact Heap.get?_push_size h₁ (by rw [← hob]; rfl)
end
theorem Up.size {F : List Addr} {e : Addr} {h h' : Heap} (a : Up F e h h') {b : Addr} {o : Obj} (hne : b ≠ e) (g : h.get? b = some o) : ∃ sl, h'.get? b = some { o with slots := sl } := by
  by_cases hm : b ∈ F
  · exact a.2 b o hne hm g
  · exact ⟨o.slots, a.1 b o hne hm g⟩
/-- an exception of LispSignal that flies; H is the heap before it -/
structure Fly (F : List Addr) (H h : Heap) (e dx : Addr) (mA : Str → Option Value) (at_ : Value) : Prop where
  up : Up F e H h
  obj : ∃ vs T oT ts, h.get? e = some { cls := .ref 38, dict := some dx, data := .fields vs } ∧ vs[1]? = some (.ref T) ∧ T ≠ e ∧ h.get? T = some oT ∧ oT.data = .fields ts ∧ ts[3]? = some at_ ∧ H.get? T = none
  inst : h.InstFk e 38 mA
theorem inst_up {F : List Addr} {e dx : Addr} {h h' : Heap} {mA : Str → Option Value} {vs vs' : Array Value} (U : ∀ b o, b ≠ e → h.get? b = some o → (∀ z, o.data ≠ .fields z) → ∃ sl, h'.get? b = some { o with slots := sl })
    (he : h.get? e = some { cls := .ref 38, dict := some dx, data := .fields vs }) (he' : h'.get? e = some { cls := .ref 38, dict := some dx, data := .fields vs' }) (I : h.InstFk e 38 mA) : h'.InstFk e 38 mA := by
  obtain ⟨o, ho, hc, hnc, hd⟩ := I
  rw [he] at ho; cases ho
  refine ⟨_, he', rfl, fun c => by simp, ?_⟩
  rcases hd with ⟨z, _⟩ | ⟨d, z, hne, hns, hed⟩
  · cases z
  · cases z
    obtain ⟨oD, es, ep, g, r1, r⟩ := hns
    obtain ⟨oE, g2, c1, c2⟩ := hed
    rw [g] at g2; cases g2
    obtain ⟨sl, g'⟩ := U _ _ hne g (fun z q => by rw [r1] at q; cases q)
    exact .inr ⟨dx, rfl, hne, ⟨_, es, ep, g', r1, r⟩, ⟨_, g', c1, c2⟩⟩
section
variable {M : Model} {A : Around} {E : Value → Shared → Prop} {s : Shared} {base : Heap} {env : Env} {outer : List Env} {L e dx : Addr} {mA : Str → Option Value} {Q : Unit → Shared → Prop}
theorem note1 {vs : Array Value} (hfr : A.frames = some (env :: outer)) (hl : s.heap.FunFrames base (env :: outer)) (hf : env.frame = some L)
    (he : s.heap.get? e = some { cls := .ref 38, dict := some dx, data := .fields vs }) (h1 : vs[1]? = some .none) (I : s.heap.InstFk e 38 mA)
    (h : ∀ h', Fly ((env :: outer).filterMap (·.frame)) s.heap h' e dx mA (rawInt L) → Q () { s with heap := h' }) : wpAny M A (noteFrame (.ref e) env) Q E s := by
  have hsz := (Array.getElem?_eq_some_iff.mp h1).1
  unfold noteFrame
  simp only [hf]
  refine wpAny_bind (wpAny_field he rfl h1 ?_)
  rw [if_neg (by decide)]
  exact note_entry hfr hl hf he rfl hsz fun h' T oT ts U he' hTn hTe hT hdT h3 => h h' ⟨U, ⟨_, T, oT, ts, he', by simp [hsz], hTe, hT, hdT, h3, hTn⟩, inst_up (F := []) (fun b o hb g _ => U.size hb g) he he' I⟩
theorem note2 {H : Heap} (hfr : A.frames = some (env :: outer)) (hl : s.heap.FunFrames base (env :: outer)) (hf : env.frame = some L) (Y : Fly ((env :: outer).filterMap (·.frame)) H s.heap e dx mA .none)
    (h : ∀ h', Fly ((env :: outer).filterMap (·.frame)) H h' e dx mA (rawInt L) → Q () { s with heap := h' }) : wpAny M A (noteFrame (.ref e) env) Q E s := by
  obtain ⟨U0, ⟨vs, T, oT, ts, he, h1, hTe, hT, hdT, h3, hTn⟩, I⟩ := Y
  have hsz := (Array.getElem?_eq_some_iff.mp h1).1
  unfold noteFrame
  simp only [hf]
  refine wpAny_bind (wpAny_field he rfl h1 ?_)
  rw [if_pos (show (Value.ref T != Value.none) = true from by simp)]
  refine wpAny_bind (wpAny_field hT hdT h3 ?_)
  rw [if_neg (show ¬ ((Value.none == rawInt L) = true) from by simp [rawInt])]
  refine wpAny_bind (wpAny_setField hT hdT (Array.getElem?_eq_some_iff.mp h3).1 ?_)
  have other : ∀ b, b ≠ T → (s.heap.update T (Obj.mapFields (·.setIfInBounds 3 Value.none))).get? b = s.heap.get? b := fun b hb => Heap.get?_update_other _ _ (Ne.symm hb)
  have noRecord : ∀ b o, s.heap.get? b = some o → (∀ vs, o.data ≠ .fields vs) → b ≠ T := fun b o hb hnf q => by
    rw [q, hT] at hb; injection hb with hb; subst hb; exact hnf ts hdT
  have he2 := (other e (Ne.symm hTe)).trans he
  have up2 : Up ((env :: outer).filterMap (·.frame)) e H (s.heap.update T (Obj.mapFields (·.setIfInBounds 3 Value.none))) :=
    ⟨fun b o z1 z2 z3 => (other b (fun q => by rw [q, hTn] at z3; cases z3)).trans (U0.1 b o z1 z2 z3), fun b o z1 z2 z3 => by
      obtain ⟨sl, g⟩ := U0.2 b o z1 z2 z3
      exact ⟨sl, (other b (fun q => by rw [q, hTn] at z3; cases z3)).trans g⟩⟩
  refine note_entry hfr (hl.of_keeps fun b o hb hnf => ⟨o, (other b (noRecord b o hb hnf)).trans hb, rfl⟩) hf he2 rfl hsz fun h' T' oT' ts' U he' hTn' hTe' hT' hdT' h3' => h h' ⟨up2.trans U, ⟨_, T', oT', ts', he', by simp [hsz], hTe', hT', hdT', h3', ?_⟩, ?_⟩
  · cases q : H.get? T' with
    | none => rfl
    | some o =>
      exfalso
      obtain ⟨sl, g⟩ := up2.size hTe' q
      exact absurd g (by show _; rw [hTn']; simp)
  · exact inst_up (F := []) (fun b o hb g hnf => U.size hb ((other b (noRecord b o g hnf)).trans g)) he he' I
theorem flight {F : List Addr} {H : Heap} {at_ : Value} (Y : Fly F H s.heap e dx mA at_) (h : ∀ h', Fly F H h' e dx mA .none → (∀ b o, s.heap.get? b = some o → (∀ vs, o.data ≠ .fields vs) → h'.get? b = some o) → Q () { s with heap := h' }) : wpAny M A (setFlight (.ref e) none) Q E s := by
  obtain ⟨U0, ⟨vs, T, oT, ts, he, h1, hTe, hT, hdT, h3, hTn⟩, I⟩ := Y
  have hsz := (Array.getElem?_eq_some_iff.mp h3).1
  have other : ∀ b, b ≠ T → (s.heap.update T (Obj.mapFields (·.setIfInBounds 3 Value.none))).get? b = s.heap.get? b := fun b hb => Heap.get?_update_other _ _ (Ne.symm hb)
  have noRecord : ∀ b o, s.heap.get? b = some o → (∀ vs, o.data ≠ .fields vs) → b ≠ T := fun b o hb hnf q => by
    rw [q, hT] at hb; injection hb with hb; subst hb; exact hnf ts hdT
  have he2 := (other e (Ne.symm hTe)).trans he
  refine wpAny_setFlight_none he rfl h1 hT hdT hsz (h _ ⟨⟨fun b o z1 z2 z3 => (other b (fun q => by rw [q, hTn] at z3; cases z3)).trans (U0.1 b o z1 z2 z3), fun b o z1 z2 z3 => ?_⟩, ⟨vs, T, _, _, he2, h1, hTe, Heap.get?_update_self _ hT (Obj.isFreed_of_fields (Obj.data_mapFields hdT _)), Obj.data_mapFields hdT _, by simp [hsz], hTn⟩, ?_⟩ fun b o g hnf => (other b (noRecord b o g hnf)).trans g)
  · obtain ⟨sl, g⟩ := U0.2 b o z1 z2 z3
    exact ⟨sl, (other b (fun q => by rw [q, hTn] at z3; cases z3)).trans g⟩
  · exact inst_up (F := []) (fun b o hb g hnf => ⟨o.slots, (other b (noRecord b o g hnf)).trans g⟩) he he2 I
end
end Mine
end

/- Bad -/
section
open PySem PySem.W PySem.Calls PyProof.Rows
theorem Mine.restBad {prog : Program} {w : World} {A : Around} {env : Env} {Q : Flow → Shared → Prop} {E : Value → Shared → Prop} {s : Shared} (h : ∀ f s', Q f s') : wpAny (model prog w) A (execs [] env) Q E s := by
  k_with_none
  w_top off
  walk1
  exact h _ _
end
section
open PySem PySem.W PySem.Calls PyProof.Rows
namespace Mine
theorem ln57 : True := by
  k_with "mine room" => row_timed "fresh" (((try simp only [depth_under_make, depth_under_kw, depth_in1, depth_deeper, units_in1, units_deeper]); (try dsimp only [cx, ktrTop]); (try simp only [cLine]); omega))
  trivial
local macro_rules | `(tactic| k_room) => `(tactic| ((try simp only [depth_under_make, depth_under_kw, depth_in1, depth_deeper]); (try dsimp only [cx, ktrTop]); (try dsimp only [recursionLimit]); omega))
theorem ln58 : True := by
  k_with "eval ListComp" => row_timed "fresh" ((k_here; (with_reducible show wpAny _ _ (eval (PySem.Expr.ListComp _ [⟨_, _, [], _⟩] _ _) _) _ _ _); k_dflt (refine ListComp_SU (F₀ := by k_asm) (by with_unfolding_all rfl) (by decide) (by rfl) (by decide) (by rfl) ?_)))
  k_with "sign is" => row_timed "fresh" (first | exact blank_is | exact dash_is | rfl | decide +kernel)
  k_with "compareOp Eq str str" => row_timed "fresh" ((k_here; first | with_reducible refine eq_nil_no ?_ | ((with_reducible refine' eq_sign_no ?sa ?sb ?_); (case sa => walk_at "sign is"); (case sb => omega)) | ((with_reducible refine' eq_sign_yes ?sa ?sb ?_); (case sa => walk_at "sign is"); (case sb => omega))))
  k_with "compareOp NotEq str str" => row_timed "fresh" ((k_here; first | ((with_reducible refine' ne_sign_no ?sa ?sb ?_); (case sa => walk_at "sign is"); (case sb => omega)) | ((with_reducible refine' ne_sign_yes ?sa ?sb ?_); (case sa => walk_at "sign is"); (case sb => omega))))
  k_with "compareOp In str str" => row_timed "fresh" ((k_here; first | ((with_reducible refine' in_known ?sa ?_); (case sa => walk_at "known sign")) | with_reducible refine in_sign ?_))
  k_with "compareOp NotIn str str" => row_timed "fresh" ((k_here; first | ((with_reducible refine' notIn_known ?sa ?_); (case sa => walk_at "known sign")) | with_reducible refine notIn_sign ?_))
  k_with "subscriptTail Name Constant str int" => row_timed "fresh" ((k_here; (with_reducible show wpAny _ _ (subscriptTail _ _ (Value.str _ _) (Value.int 0 _)) _ _ _); k_dflt (refine' at0 ?_ ?s ?t; (case s => with_unfolding_all rfl); (case t => kmk_pure)); intro t' k'))
  k_with "subscriptTail Name Constant str int" => row_timed "fresh" ((k_here; (with_reducible show wpAny _ _ (subscriptTail _ _ (Value.str _ _) (Value.int 1 _)) _ _ _); k_dflt (refine' at1 ?_ ?s ?t; (case s => with_unfolding_all rfl); (case t => kmk_pure)); intro t' k'))
  k_with "call builtin:len" => row_timed "fresh" ((k_here; (with_reducible show wpAny _ _ (call (Value.builtin "len") [Value.str _ _]) _ _ _); (with_reducible refine' len_tx ?sa ?_); (case sa => walk_at "few signs"); intro t' k'))
  k_with "few signs" => row_timed "fresh" (((try simp only [tx_len, List.length_cons, List.length_nil]); omega))
  k_with "call builtin:ord" => row_timed "fresh" ((k_here; (with_reducible refine ord_sg ?_); intro t' k'))
  k_with "compareOp Lt int int" => row_timed "fresh" ((k_here; first | ((with_reducible refine' lt_no ?sa ?_); (case sa => walk_at "lengths")) | ((with_reducible refine' lt_yes ?sa ?_); (case sa => walk_at "lengths"))))
  k_with "lengths" => row_timed "fresh" (((try simp only [List.length_cons, List.length_nil]); omega))
  k_with "subscriptTail Name Slice str ref" => row_timed "fresh" ((k_here; (with_reducible show wpAny _ _ (subscriptTail _ (PySem.Expr.Slice (some _) none none _) (Value.str _ _) (Value.ref _)) _ _ _); k_dflt (refine' tail2 ?F ?N ?e ?l ?_ ?s ?t; (case F => k_asm); (case N => k_asm); (case e => first | exact from2 | exact from2s); (case l => walk_at "few signs"); (case s => with_unfolding_all rfl); (case t => kmk_pure)); intro h' t' k' F' N'; (try dsimp only at N'); (try k_sweep)))
  k_with "call builtin:all" => row_timed "fresh" ((k_here; (with_reducible show wpAny _ _ (call (Value.builtin "all") [Value.ref _]) _ _ _); k_dflt (refine' all_false ?F ?N ?hh ?hl ?hb ?ha ?_; (case F => k_asm); (case N => k_asm); (case hh => rfl); (case hl => exact News.isList (by k_asm) (by k_mem)); (case hb => assumption); (case ha => assumption)); intro h' tk' F' N'))
  k_with "call ref" => row_timed "fresh" ((k_here; (with_reducible show wpAny _ _ (call (Value.ref 38) [Value.str _ _, _]) _ _ _); k_dflt (refine' signal_call ?k1 ?k2 ?k3 ?k4 ?k5 ?kk ?d1 ?d2 ?_; (case k1 => k_asm); (case k2 => k_asm); (case k3 => k_asm); (case k4 => k_asm); (case k5 => k_asm); (case kk => exact rfl); (case d1 => walk_at "mine room"); (case d2 => walk_at "mine room"); k_whole); intro h' tk' e' t' dx' F' N' I' o1'; (try dsimp only at N'); (try simp only [LCg.Off1, and_true] at o1'); (try k_sweep); (try k_fold)))
  k_with "exec Raise some none" => row_timed "fresh" ((k_here; k_dflt (refine Raise_sig rfl ?_)))
  k_with "compareOp NotIn str str" => row_timed "fresh" ((k_here; ((with_reducible refine' notIn_out ?sa ?_); (case sa => assumption))))
  k_with "compareOp In str str" => row_timed "fresh" ((k_here; ((with_reducible refine' in_out ?sa ?_); (case sa => assumption))))
  k_with "known sign" => row_timed "fresh" (first | assumption | decide +kernel)
  trivial

section
variable {prog : Program} {w : World} {A : Around} {E : Value → Shared → Prop} {s : Shared} {c : Nat} {X : Str} {t u : Tok} {Q : Value → Shared → Prop}
theorem in_out (hc : c ∉ X.cps.toList) (h : Q (.bool false) s) : wpAny (model prog w) A (compareOp .In (.str (sg c) u) (.str X t)) Q E s :=
  in_sign (by rw [decide_eq_false hc]; exact h)
theorem notIn_out (hc : c ∉ X.cps.toList) (h : Q (.bool true) s) : wpAny (model prog w) A (compareOp .NotIn (.str (sg c) u) (.str X t)) Q E s :=
  notIn_sign (by rw [decide_eq_false hc]; exact h)
end
def BJ (i : Nat) (ys : List Value) (news : List (Addr × Obj)) : Prop := news = [] ∧ ∃ bs, LSm.BoolsAre ys bs ∧ bs.length = i ∧ ∀ b ∈ bs, b = false
theorem fly_down {F : List Addr} {L e dx : Addr} {H g h h' : Heap} {m mA : Str → Option Value} {v : Value} (keep : ∀ b o, H.get? b = some o → ¬b ∈ ([] : List (Addr × Obj)).map (·.1) → g.get? b = some o) (FF : Fr g L h m) (sz : H.objs.size ≤ L)
    (Y : Fly (L :: F) h h' e dx mA v) : Fly F H h' e dx mA v := by
  have k : ∀ b o, H.get? b = some o → h.get? b = some o := fun b o z => FF.keep b o (keep b o z (by simp))
  have hL : ∀ b o, H.get? b = some o → b ≠ L := fun b o z q => by
    have := Heap.lt_size z
    rw [q] at this
    exact absurd (Nat.lt_of_lt_of_le this sz) (Nat.lt_irrefl _)
  obtain ⟨U, ⟨vs, T, oT, ts, he, h1, hTe, hT, hdT, h3, hTn⟩, I⟩ := Y
  refine ⟨⟨fun b o z1 z2 z3 => U.1 b o z1 (by simp only [List.mem_cons, not_or]; exact ⟨hL b o z3, z2⟩) (k b o z3), fun b o z1 z2 z3 => U.2 b o z1 (List.mem_cons_of_mem _ z2) (k b o z3)⟩, ⟨vs, T, oT, ts, he, h1, hTe, hT, hdT, h3, ?_⟩, I⟩
  cases q : H.get? T with
  | none => rfl
  | some o => rw [k _ _ q] at hTn; cases hTn
set_option maxHeartbeats 4000000 in
theorem bad_0 {prog : Program} {w : World} {p : Program} {loose : List Str} {mean : ExcName → Option Value} {mg mb : Str → Option Value} {dp un : Nat} {gd : Option (List Code)} {l : List Env} {s : Shared} {c' : Nat} {hs : List Nat} {t : Tok} {Q E : Value → Shared → Prop}
    (H : Here (hd.heap_1 w.params) p loose mean mg mb (cx dp un gd l) l [] s.heap) (hdp : dp + 100 < 1000) (hun : un + 500 < 9900) 
    (exc : ∀ h' tk e dx mA, Fly (l.filterMap (·.frame)) s.heap h' e dx mA .none → s.heap.get? e = none → (∃ ts, mA (Str.ofString "symbol") = some (.str (Str.ofString "error") ts)) → E (.ref e) { s with heap := h', toks := tk }) :
    wpAny (model prog w) (cx dp un gd l) (call (.ref 100) [.str (Str.ofString "") t]) Q E s := by
  refine wpAny_call ?_
  k_dflt (refine' enter (K := hd.heap_1 w.params) (p := p) (loose := loose) (mean := mean) (mg := mg) (mb := mb) (l := l) (binds := [((PySem.Str.ofString "text"), .str (Str.ofString "") t)]) (D := []) ?H ?ND ?ho ?hcd ?hroom ?hbind ?hloc ?_ ?c2 ?c3 ?c4 ?c5; (case H => exact H); (case ho => k_is); (case hcd => k_is); (case hroom => (show dp < 1000; omega)); (case hbind => exact BindsTo.of_eq rfl); (case hloc => exact locs rfl); (case c2 => exact rfl); (case c3 => exact rfl); (case c4 => exact rfl); (case c5 => decide); k_whole)
  case ND => intro q hq; cases hq
  intro base g L' h₁ keep F' N' B' X' T' lt' sz'
  (try dsimp only)
  try k_fold
  k_steps
  (rename Fr _ _ _ _ => FF; rename News _ _ _ _ => NN; rename Heap.InstFk _ _ _ _ => II)
  refine ⟨_, _, _, rfl, sig_cls (X'.keeps FF.keep), NN.get (.head _), ?_⟩
  (try k_unfold)
  (try dsimp only)
  unfold leaving
  refine wpAny_bind (note1 rfl (B'.push FF rfl).frames rfl (NN.get (.head _)) rfl II fun h7 Y => flight Y fun h8 Y8 _ => ?_)
  exact exc _ _ _ _ _ (fly_down keep FF sz' Y8) (fresh_of keep (News.new NN (.head _)) (by simp)) ⟨_, rfl⟩
set_option maxHeartbeats 4000000 in
theorem bad_1 {prog : Program} {w : World} {p : Program} {loose : List Str} {mean : ExcName → Option Value} {mg mb : Str → Option Value} {dp un : Nat} {gd : Option (List Code)} {l : List Env} {s : Shared} {c' : Nat} {hs : List Nat} {t : Tok} {Q E : Value → Shared → Prop}
    (H : Here (hd.heap_1 w.params) p loose mean mg mb (cx dp un gd l) l [] s.heap) (hdp : dp + 100 < 1000) (hun : un + 500 < 9900) (hc : c' ∉ (Str.ofString " w_.()'\"\\/$<>@!|").cps.toList) (h45 : c' ≠ 45)
    (exc : ∀ h' tk e dx mA, Fly (l.filterMap (·.frame)) s.heap h' e dx mA .none → s.heap.get? e = none → (∃ ts, mA (Str.ofString "symbol") = some (.str (Str.ofString "error") ts)) → E (.ref e) { s with heap := h', toks := tk }) :
    wpAny (model prog w) (cx dp un gd l) (call (.ref 100) [.str (tx [c']) t]) Q E s := by
  refine wpAny_call ?_
  k_dflt (refine' enter (K := hd.heap_1 w.params) (p := p) (loose := loose) (mean := mean) (mg := mg) (mb := mb) (l := l) (binds := [((PySem.Str.ofString "text"), .str (tx [c']) t)]) (D := []) ?H ?ND ?ho ?hcd ?hroom ?hbind ?hloc ?_ ?c2 ?c3 ?c4 ?c5; (case H => exact H); (case ho => k_is); (case hcd => k_is); (case hroom => (show dp < 1000; omega)); (case hbind => exact BindsTo.of_eq rfl); (case hloc => exact locs rfl); (case c2 => exact rfl); (case c3 => exact rfl); (case c4 => exact rfl); (case c5 => decide); k_whole)
  case ND => intro q hq; cases hq
  intro base g L' h₁ keep F' N' B' X' T' lt' sz'
  (try dsimp only)
  try k_fold
  k_steps
  (rename Fr _ _ _ _ => FF; rename News _ _ _ _ => NN; rename Heap.InstFk _ _ _ _ => II)
  refine ⟨_, _, _, rfl, sig_cls (X'.keeps FF.keep), NN.get (.head _), ?_⟩
  (try k_unfold)
  (try dsimp only)
  unfold leaving
  refine wpAny_bind (note1 rfl (B'.push FF rfl).frames rfl (NN.get (.head _)) rfl II fun h7 Y => flight Y fun h8 Y8 _ => ?_)
  exact exc _ _ _ _ _ (fly_down keep FF sz' Y8) (fresh_of keep (News.new NN (.head _)) (by simp)) ⟨_, rfl⟩
set_option maxHeartbeats 4000000 in
theorem bad_2 {prog : Program} {w : World} {p : Program} {loose : List Str} {mean : ExcName → Option Value} {mg mb : Str → Option Value} {dp un : Nat} {gd : Option (List Code)} {l : List Env} {s : Shared} {c' : Nat} {hs : List Nat} {t : Tok} {Q E : Value → Shared → Prop}
    (H : Here (hd.heap_1 w.params) p loose mean mg mb (cx dp un gd l) l [] s.heap) (hdp : dp + 100 < 1000) (hun : un + 500 < 9900) (hl : hs.length ≤ 20) (h0 : hs ≠ []) (hh : ∀ x ∈ hs, x ∉ (Str.ofString "1234bcnp").cps.toList ∧ x ≠ 32 ∧ x < 128)
    (exc : ∀ h' tk e dx mA, Fly (l.filterMap (·.frame)) s.heap h' e dx mA .none → s.heap.get? e = none → (∃ ts, mA (Str.ofString "symbol") = some (.str (Str.ofString "error") ts)) → E (.ref e) { s with heap := h', toks := tk }) :
    wpAny (model prog w) (cx dp un gd l) (call (.ref 100) [.str (tx (119 :: 32 :: hs)) t]) Q E s := by
  refine wpAny_call ?_
  k_dflt (refine' enter (K := hd.heap_1 w.params) (p := p) (loose := loose) (mean := mean) (mg := mg) (mb := mb) (l := l) (binds := [((PySem.Str.ofString "text"), .str (tx (119 :: 32 :: hs)) t)]) (D := []) ?H ?ND ?ho ?hcd ?hroom ?hbind ?hloc ?_ ?c2 ?c3 ?c4 ?c5; (case H => exact H); (case ho => k_is); (case hcd => k_is); (case hroom => (show dp < 1000; omega)); (case hbind => exact BindsTo.of_eq rfl); (case hloc => exact locs rfl); (case c2 => exact rfl); (case c3 => exact rfl); (case c4 => exact rfl); (case c5 => decide); k_whole)
  case ND => intro q hq; cases hq
  intro base g L' h₁ keep F' N' B' X' T' lt' sz'
  (try dsimp only)
  try k_fold
  k_steps
  refine ⟨_, _, _, rfl, all_plain (fun x hx => (hh x hx).2.2), rfl, by k_asm, by k_asm, by (rw [sizeLine_eq]; show (tx hs).length ≤ _; rw [tx_len]; omega), fun s₂ hs₂ => turnsU BJ ?turn ?fin _ 0 [] _ (Nat.zero_add _) ⟨rfl, [], .nil, rfl, by simp⟩⟩
  case turn =>
    obtain ⟨hx2, rfl⟩ := hs₂
    rintro i ys news v I oI C oC D m₂ h tk E' hi ⟨rfl, bs, hb, hl2, ha⟩ ⟨c2, u2, hc2, rfl⟩ hC hx F N off ne
    obtain ⟨hc3, hc4, hc5⟩ := hh c2 (by simpa using Array.mem_of_getElem? hc2)
    simp only [LCg.Off3] at off
    k_steps
    exact ⟨rfl, _, BoolsAre.snoc hb false, by simp [hl2], by
      intro b hb
      rcases List.mem_append.mp hb with h | h
      · exact ha b h
      · simpa using h⟩
  case fin =>
    obtain ⟨hx2, rfl⟩ := hs₂
    rintro ys news ⟨rfl, bs, hb, hl2, ha⟩
    have hall : bs.all id = false := by
      cases bs with
      | nil =>
        exfalso; apply h0
        have : (tx hs).length = 0 := hl2.symm
        rw [tx_len] at this
        exact List.length_eq_zero_iff.mp this
      | cons b r => simp [ha b (.head _)]
    k_steps
    (rename Fr _ _ _ _ => FF; rename News _ _ _ _ => NN; rename Heap.InstFk _ _ _ _ => II)
    refine ⟨_, _, _, rfl, sig_cls (X'.keeps FF.keep), NN.get (.head _), ?_⟩
    (try k_unfold)
    (try dsimp only)
    unfold leaving
    refine wpAny_bind (note1 rfl (B'.push FF rfl).frames rfl (NN.get (.head _)) rfl II fun h7 Y => flight Y fun h8 Y8 _ => ?_)
    exact exc _ _ _ _ _ (fly_down keep FF sz' Y8) (fresh_of keep (News.new NN (.head _)) (by simp)) ⟨_, rfl⟩
end Mine
end

/- Show -/
section
open PySem PySem.W PySem.Calls PyProof.Rows
theorem Mine.restShow {prog : Program} {w : World} {A : Around} {env : Env} {Q : Flow → Shared → Prop} {E : Value → Shared → Prop} {s : Shared} (h : ∀ f s', Q f s') : wpAny (model prog w) A (execs [] env) Q E s := by
  k_with_none
  w_top off
  walk1
  exact h _ _
end
section
open PySem PySem.W PySem.Calls PyProof.Rows
namespace Mine
theorem ln78 : True := by
  k_with "mine room" => row_timed "fresh" (((try simp only [depth_under_make, depth_under_kw, depth_in1, depth_deeper, units_in1, units_deeper]); (try dsimp only [cx, ktrTop]); (try simp only [cLine]); omega))
  trivial
local macro_rules | `(tactic| k_room) => `(tactic| ((try simp only [depth_under_make, depth_under_kw, depth_in1, depth_deeper]); (try dsimp only [cx, ktrTop]); (try dsimp only [recursionLimit]); omega))
theorem ln79 : True := by
  k_with "sign is" => row_timed "fresh" (first | exact blank_is | exact dash_is | rfl | decide +kernel)
  k_with "compareOp Eq str str" => row_timed "fresh" ((k_here; first | with_reducible refine eq_nil_no ?_ | ((with_reducible refine' eq_sign_no ?sa ?sb ?_); (case sa => walk_at "sign is"); (case sb => omega)) | ((with_reducible refine' eq_sign_yes ?sa ?sb ?_); (case sa => walk_at "sign is"); (case sb => omega))))
  k_with "compareOp NotEq str str" => row_timed "fresh" ((k_here; first | ((with_reducible refine' ne_sign_no ?sa ?sb ?_); (case sa => walk_at "sign is"); (case sb => omega)) | ((with_reducible refine' ne_sign_yes ?sa ?sb ?_); (case sa => walk_at "sign is"); (case sb => omega))))
  k_with "compareOp In str str" => row_timed "fresh" ((k_here; first | ((with_reducible refine' in_known ?sa ?_); (case sa => walk_at "known sign")) | with_reducible refine in_sign ?_))
  k_with "compareOp NotIn str str" => row_timed "fresh" ((k_here; first | ((with_reducible refine' notIn_known ?sa ?_); (case sa => walk_at "known sign")) | with_reducible refine notIn_sign ?_))
  k_with "subscriptTail Name Constant str int" => row_timed "fresh" ((k_here; (with_reducible show wpAny _ _ (subscriptTail _ _ (Value.str _ _) (Value.int 0 _)) _ _ _); k_dflt (refine' at0 ?_ ?s ?t; (case s => with_unfolding_all rfl); (case t => kmk_pure)); intro t' k'))
  k_with "subscriptTail Name Constant str int" => row_timed "fresh" ((k_here; (with_reducible show wpAny _ _ (subscriptTail _ _ (Value.str _ _) (Value.int 1 _)) _ _ _); k_dflt (refine' at1 ?_ ?s ?t; (case s => with_unfolding_all rfl); (case t => kmk_pure)); intro t' k'))
  k_with "call builtin:len" => row_timed "fresh" ((k_here; (with_reducible show wpAny _ _ (call (Value.builtin "len") [Value.str _ _]) _ _ _); (with_reducible refine' len_tx ?sa ?_); (case sa => walk_at "few signs"); intro t' k'))
  k_with "few signs" => row_timed "fresh" (((try simp only [tx_len, List.length_cons, List.length_nil]); omega))
  k_with "call builtin:ord" => row_timed "fresh" ((k_here; (with_reducible refine ord_sg ?_); intro t' k'))
  k_with "compareOp Lt int int" => row_timed "fresh" ((k_here; first | ((with_reducible refine' lt_no ?sa ?_); (case sa => walk_at "lengths")) | ((with_reducible refine' lt_yes ?sa ?_); (case sa => walk_at "lengths"))))
  k_with "lengths" => row_timed "fresh" (((try simp only [List.length_cons, List.length_nil]); omega))
  k_with "subscriptTail Name Slice str ref" => row_timed "fresh" ((k_here; (with_reducible show wpAny _ _ (subscriptTail _ (PySem.Expr.Slice (some _) none none _) (Value.str _ _) (Value.ref _)) _ _ _); k_dflt (refine' tail2 ?F ?N ?e ?l ?_ ?s ?t; (case F => k_asm); (case N => k_asm); (case e => first | exact from2 | exact from2s); (case l => walk_at "few signs"); (case s => with_unfolding_all rfl); (case t => kmk_pure)); intro h' t' k' F' N'; (try dsimp only at N'); (try k_sweep)))
  k_with "known sign" => row_timed "fresh" (first | assumption | decide +kernel)
  trivial

theorem Keep.two {h h' h₀ : Heap} {L x d : Addr} {ox od : Obj} {news : List (Addr × Obj)} (k : Keep [x, d] h h') (ex : h.get? x = some ox) (ed : h.get? d = some od) (N : News h₀ L h' news) (mx : (x, ox) ∈ news) (md : (d, od) ∈ news) : Keep [] h h' :=
  Keep.drop (Keep.drop k ex (N _ mx).1) ed (N _ md).1
/-- the blanks at the end go -/
def cutr (l : List Nat) : List Nat := l.take (l.length - (l.reverse.takeWhile (· == 32)).length)
theorem cutr_keep {l : List Nat} {z : Nat} (h : z ≠ 32) : cutr (l ++ [z]) = l ++ [z] := by
  unfold cutr
  rw [List.reverse_append, List.reverse_cons, List.reverse_nil, List.nil_append, List.singleton_append, List.takeWhile_cons, if_neg (by simpa using h)]
  exact List.take_of_length_le (by simp)
theorem cutr_len {l : List Nat} : (cutr l).length ≤ l.length := List.length_take_le' ..
theorem cutr_two {c : Nat} (h : c ≠ 32) : cutr [c, 32] = [c] := by
  unfold cutr
  simp [h]
theorem cutr_one : cutr [32] = [] := by decide
theorem rs_eq {l : List Nat} : Txt.rstripChars (tx l) (Str.ofString " ") = tx (cutr l) := by
  unfold Txt.rstripChars
  rw [PyProof.Rows.stripBy_eq]
  have e : (fun c => (Str.ofString " ").cps.contains c) = fun c => c == 32 := by
    funext c
    rw [blank_is]
    simp
    rw [Bool.eq_iff_iff]
    simp
  unfold stripLo stripHi Builtin.Str.strSub cutr
  simp only [Bool.false_eq_true, if_false, if_true, List.drop_zero]
  rw [show ((Str.ofString " ").cps.contains) = fun c => c == 32 from e, tx_len]
  simp
section
variable {prog : Program} {w : World} {A : Around} {E : Value → Shared → Prop} {s : Shared} {l r : List Nat} {t u : Tok} {Q : Value → Shared → Prop} {X Y : Str}
theorem rs_call (hl : l.length < 1000) (h : ∀ t' k, Q (.str (tx (cutr l)) t') { s with toks := k }) : wpAny (model prog w) A (call (.builtin "str.rstrip") [.str (tx l) t, .str (Str.ofString " ") u]) Q E s :=
  SCL.rstripChars (fun t' k _ => by rw [rs_eq]; exact h t' k) (by rw [tx_len, sizeLine_eq]; omega)
theorem add_tx (hX : X = tx l) (hY : Y = tx r) (hl : l.length + r.length < 1000) (h : ∀ t' k, Q (.str (tx (l ++ r)) t') { s with toks := k }) : wpAny (model prog w) A (binaryOp .Add (.str X t) (.str Y u)) Q E s := by
  subst hX; subst hY
  refine add_texts (by rw [tx_len, tx_len]; omega) fun t' k => ?_
  have : tx l ++ tx r = tx (l ++ r) := by
    show (⟨l.toArray ++ r.toArray⟩ : Str) = _
    simp
  rw [this]; exact h t' k
end
theorem fc_no32 {c : Nat} (h : c ∈ FC) : c ≠ 32 := by
  have k : ∀ c ∈ FC, c ≠ 32 := by decide
  exact k c h
theorem split_last {l : List Nat} : l = [] ∨ ∃ a z, l = a ++ [z] := by
  rcases l.eq_nil_or_concat with h | ⟨a, z, h⟩
  · exact .inl h
  · exact .inr ⟨a, z, by rw [h, List.concat_eq_append]⟩
theorem desc_show {c : Nat} {mt : Option Int} {fl : List Nat} {m' : Nat} (hm : m' = mtSign mt) (h32 : mt ≠ none → m' ≠ 32) (hc : c ≠ 32) (hf : fl.Sublist FC) : Desc c mt fl (cutr (([c] ++ [m']) ++ fl)) := by
  rcases split_last (l := fl) with rfl | ⟨a, z, rfl⟩
  · rw [List.append_nil]
    cases mt with
    | none => subst hm; show Desc _ _ _ (cutr [c, 32]); rw [cutr_two hc]; exact .short c (.inl rfl) rfl rfl
    | some m => rw [cutr_keep (h32 (by simp)), hm]; exact .long c [] (.inl rfl) (by simp) (by simp)
  · rw [← List.append_assoc, cutr_keep (fc_no32 (hf.subset (by simp))), List.append_assoc, hm]
    exact .long c (a ++ [z]) (.inl rfl) (fun _ => Iff.rfl) (Nat.le_trans hf.length_le (by decide))
theorem desc_blank {mt : Option Int} {fl : List Nat} {m' : Nat} (hm : m' = mtSign mt) (h32 : mt ≠ none → m' ≠ 32) (hf : fl.Sublist FC) : Desc 32 mt fl ([32] ++ cutr ([m'] ++ fl)) := by
  rcases split_last (l := fl) with rfl | ⟨a, z, rfl⟩
  · rw [List.append_nil]
    cases mt with
    | none => subst hm; show Desc _ _ _ ([32] ++ cutr [32]); rw [cutr_one]; exact .short 32 (.inl rfl) rfl rfl
    | some m => 
      have := cutr_keep (l := []) (h32 (by simp))
      rw [List.nil_append] at this
      rw [this, hm]; exact .long 32 [] (.inl rfl) (by simp) (by simp)
  · rw [← List.append_assoc, cutr_keep (fc_no32 (hf.subset (by simp))), List.append_assoc, hm]
    exact .long 32 (a ++ [z]) (.inl rfl) (fun _ => Iff.rfl) (Nat.le_trans hf.length_le (by decide))
theorem ln93 : True := by
  k_with "binaryOp Add str str" => row_timed "fresh" ((k_here; ((with_reducible refine' add_tx ?sa ?sb ?sc ?_); (case sa => walk_at "as signs"); (case sb => walk_at "as signs"); (case sc => walk_at "sum small")); intro t' k'))
  k_with "as signs" => row_timed "fresh" (first | exact blank_is | rfl)
  k_with "sum small" => row_timed "fresh" (first | ((try simp only [List.length_append, List.length_cons, List.length_nil]); omega) | exact Nat.lt_of_le_of_lt (Nat.add_le_add_left cutr_len _) (by (try simp only [List.length_append, List.length_cons, List.length_nil]); omega))
  k_with "call builtin:str.rstrip" => row_timed "fresh" ((k_here; ((with_reducible refine' rs_call ?sa ?_); (case sa => walk_at "sum small")); intro t' k'))
  trivial

set_option maxHeartbeats 4000000 in
theorem show_spec {prog : Program} {w : World} {p : Program} {loose : List Str} {mean : ExcName → Option Value} {mg mb : Str → Option Value} {dp un : Nat} {gd : Option (List Code)} {l : List Env} {s : Shared} {x d : Addr} {od : Obj} {c : Nat} {mt : Option Int} {mv : Value} {fl : List Nat} {Q E : Value → Shared → Prop}
    (H : Here (hd.heap_1 w.params) p loose mean mg mb (cx dp un gd l) l [x, d] s.heap) (hx : s.heap.get? x = some (instObj 86 d)) (hdd : s.heap.get? d = some od) (hS : SynD w.params od (sg c) mv (tx fl)) (hne : x ≠ d) (hm : MtIs mv mt) (hc : c ∈ KC) (hf : fl.Sublist FC) (hdp : dp + 100 < 1000) (hun : un + 500 < 9900)
    (ret : ∀ h' tk T tT, Keep [] s.heap h' → Desc c mt fl T.cps.toList → Q (.str T tT) { s with heap := h', toks := tk }) :
    wpAny (model prog w) (cx dp un gd l) (call (.ref 107) [.ref x]) Q E s := by
  obtain ⟨u1, u2, u3, u4, u5, rfl⟩ := hS
  refine wpAny_call ?_
  k_dflt (refine' enter (K := hd.heap_1 w.params) (p := p) (loose := loose) (mean := mean) (mg := mg) (mb := mb) (l := l) (binds := [((PySem.Str.ofString "syntax"), .ref x)]) (D := [(x, instObj 86 d), (d, _)]) ?H ?ND ?ho ?hcd ?hroom ?hbind ?hloc ?_ ?c2 ?c3 ?c4 ?c5; (case H => exact H); (case ho => k_is); (case hcd => k_is); (case hroom => (show dp < 1000; omega)); (case hbind => exact BindsTo.of_eq rfl); (case hloc => exact locs rfl); (case c2 => exact rfl); (case c3 => exact rfl); (case c4 => exact rfl); (case c5 => decide); k_whole)
  case ND => 
    intro q hq
    simp only [List.mem_cons, List.not_mem_nil, or_false] at hq
    rcases hq with rfl | rfl
    · exact hx
    · exact hdd
  intro base g L' h₁ keep F' N' B' X' T' lt' sz'
  k_lt lt'
  (try dsimp only)
  try k_fold
  replace hne := neN hne
  have hfl := fc_len hf
  by_cases h32 : c = 32
  · subst h32
    cases hm with
    | none =>
      k_steps
      (rename Fr _ _ _ _ => FF)
      exact ret _ _ _ _ (Keep.two (fun b o e n => FF.keep b o (keep b o e n)) hx hdd (by assumption) (by k_mem) (by k_mem)) (desc_blank rfl (by simp) hf)
    | int m t a b =>
      k_steps
      (rename Fr _ _ _ _ => FF)
      exact ret _ _ _ _ (Keep.two (fun b o e n => FF.keep b o (keep b o e n)) hx hdd (by assumption) (by k_mem) (by k_mem)) (desc_blank rfl (fun _ => by omega) hf)
  · cases hm with
    | none =>
      k_steps
      (rename Fr _ _ _ _ => FF)
      exact ret _ _ _ _ (Keep.two (fun b o e n => FF.keep b o (keep b o e n)) hx hdd (by assumption) (by k_mem) (by k_mem)) (desc_show rfl (by simp) h32 hf)
    | int m t a b =>
      k_steps
      (rename Fr _ _ _ _ => FF)
      exact ret _ _ _ _ (Keep.two (fun b o e n => FF.keep b o (keep b o e n)) hx hdd (by assumption) (by k_mem) (by k_mem)) (desc_show rfl (fun _ => by omega) h32 hf)
section
variable {prog : Program} {w : World} {p : Program} {loose : List Str} {mean : ExcName → Option Value} {mg mb : Str → Option Value} {dp un : Nat} {gd : Option (List Code)} {s : Shared} {cn : Str} {cs : Scope} {L a : Addr} {ccd : Value} {cl : List (Str × Addr)} {outer : List Env} {A₀ : Around} {base h₀ : Heap} {m : Str → Option Value} {news : List (Addr × Obj)}
theorem show_call {x d : Addr} {od : Obj} {c : Nat} {mt : Option Int} {mv : Value} {fl : List Nat} {Q E : Value → Shared → Prop}
    (B : Below A₀ base outer h₀) (F : Fr h₀ L s.heap m) (X : (hd.heap_1 w.params).In h₀) (N : News h₀ L s.heap news) (TP : Top p loose mean mg mb h₀) (hk : cs.kind = .function) (mx : (x, instObj 86 d) ∈ news) (md : (d, od) ∈ news) (hS : SynD w.params od (sg c) mv (tx fl)) (hne : x ≠ d) (hm : MtIs mv mt) (hc : c ∈ KC) (hf : fl.Sublist FC) (hdp : dp + 100 < 1000) (hun : un + 500 < 9900)
    (ret : ∀ h' tk T tT, Fr h₀ L h' m → News h₀ L h' news → Desc c mt fl T.cps.toList → Q (.str T tT) { s with heap := h', toks := tk }) :
    wpAny (model prog w) (ktrTop dp un gd cn cs L a ccd cl outer) (call (.ref 107) [.ref x]) Q E s :=
  show_spec (H := Here.of (D := [(x, instObj 86 d), (d, od)]) (A := ktrTop dp un gd cn cs L a ccd cl outer) B F X (News.one N mx (News.one N md News.none)) TP rfl rfl hk) (N _ mx).1 (N _ md).1 hS hne hm hc hf hdp hun fun h' tk T tT k hd' => ret h' tk T tT (back0 F N k).1 (back0 F N k).2 hd'
end
end Mine
end

/- Items -/
section
open PySem PySem.W PySem.Calls PyProof.Rows
theorem Mine.restItems {prog : Program} {w : World} {A : Around} {env : Env} {Q : Flow → Shared → Prop} {E : Value → Shared → Prop} {s : Shared} (h : ∀ f s', Q f s') : wpAny (model prog w) A (execs [] env) Q E s := by
  k_with_none
  w_top off
  walk1
  exact h _ _
end
section
open PySem PySem.W PySem.Calls PyProof.Rows
namespace Mine
theorem ln97 : True := by
  k_with "mine room" => row_timed "fresh" (((try simp only [depth_under_make, depth_under_kw, depth_in1, depth_deeper, units_in1, units_deeper]); (try dsimp only [cx, ktrTop]); (try simp only [cLine]); omega))
  trivial
local macro_rules | `(tactic| k_room) => `(tactic| ((try simp only [depth_under_make, depth_under_kw, depth_in1, depth_deeper]); (try dsimp only [cx, ktrTop]); (try dsimp only [recursionLimit]); omega))
theorem ln98 : True := by
  k_with "sign is" => row_timed "fresh" (first | exact blank_is | exact dash_is | rfl | decide +kernel)
  k_with "compareOp Eq str str" => row_timed "fresh" ((k_here; first | with_reducible refine eq_nil_no ?_ | ((with_reducible refine' eq_sign_no ?sa ?sb ?_); (case sa => walk_at "sign is"); (case sb => omega)) | ((with_reducible refine' eq_sign_yes ?sa ?sb ?_); (case sa => walk_at "sign is"); (case sb => omega))))
  k_with "compareOp NotEq str str" => row_timed "fresh" ((k_here; first | ((with_reducible refine' ne_sign_no ?sa ?sb ?_); (case sa => walk_at "sign is"); (case sb => omega)) | ((with_reducible refine' ne_sign_yes ?sa ?sb ?_); (case sa => walk_at "sign is"); (case sb => omega))))
  k_with "compareOp In str str" => row_timed "fresh" ((k_here; first | ((with_reducible refine' in_known ?sa ?_); (case sa => walk_at "known sign")) | with_reducible refine in_sign ?_))
  k_with "compareOp NotIn str str" => row_timed "fresh" ((k_here; first | ((with_reducible refine' notIn_known ?sa ?_); (case sa => walk_at "known sign")) | with_reducible refine notIn_sign ?_))
  k_with "subscriptTail Name Constant str int" => row_timed "fresh" ((k_here; (with_reducible show wpAny _ _ (subscriptTail _ _ (Value.str _ _) (Value.int 0 _)) _ _ _); k_dflt (refine' at0 ?_ ?s ?t; (case s => with_unfolding_all rfl); (case t => kmk_pure)); intro t' k'))
  k_with "subscriptTail Name Constant str int" => row_timed "fresh" ((k_here; (with_reducible show wpAny _ _ (subscriptTail _ _ (Value.str _ _) (Value.int 1 _)) _ _ _); k_dflt (refine' at1 ?_ ?s ?t; (case s => with_unfolding_all rfl); (case t => kmk_pure)); intro t' k'))
  k_with "call builtin:len" => row_timed "fresh" ((k_here; (with_reducible show wpAny _ _ (call (Value.builtin "len") [Value.str _ _]) _ _ _); (with_reducible refine' len_tx ?sa ?_); (case sa => walk_at "few signs"); intro t' k'))
  k_with "few signs" => row_timed "fresh" (((try simp only [tx_len, List.length_cons, List.length_nil]); omega))
  k_with "call builtin:ord" => row_timed "fresh" ((k_here; (with_reducible refine ord_sg ?_); intro t' k'))
  k_with "compareOp Lt int int" => row_timed "fresh" ((k_here; first | ((with_reducible refine' lt_no ?sa ?_); (case sa => walk_at "lengths")) | ((with_reducible refine' lt_yes ?sa ?_); (case sa => walk_at "lengths"))))
  k_with "lengths" => row_timed "fresh" (((try simp only [List.length_cons, List.length_nil]); omega))
  k_with "subscriptTail Name Slice str ref" => row_timed "fresh" ((k_here; (with_reducible show wpAny _ _ (subscriptTail _ (PySem.Expr.Slice (some _) none none _) (Value.str _ _) (Value.ref _)) _ _ _); k_dflt (refine' tail2 ?F ?N ?e ?l ?_ ?s ?t; (case F => k_asm); (case N => k_asm); (case e => first | exact from2 | exact from2s); (case l => walk_at "few signs"); (case s => with_unfolding_all rfl); (case t => kmk_pure)); intro h' t' k' F' N'; (try dsimp only at N'); (try k_sweep)))
  k_with "known sign" => row_timed "fresh" (first | assumption | decide +kernel)
  trivial
def mtD : Option Int → PyData
  | none => .none
  | some m => .int m
/-- what the law's items read as -/
def itD (c : Nat) (mt : Option Int) (fl : List Nat) : PyData := .tuple [.str (sg c), mtD mt, .list (fl.map fun c => .str (sg c))]
theorem mt_reads {h : Heap} {mv : Value} {mt : Option Int} (hm : MtIs mv mt) : Reads h mv (mtD mt) [] := by
  cases hm with
  | none => exact .none
  | int m t _ _ => exact .int _ _
set_option maxHeartbeats 4000000 in
theorem items_spec {prog : Program} {w : World} {p : Program} {loose : List Str} {mean : ExcName → Option Value} {mg mb : Str → Option Value} {dp un : Nat} {gd : Option (List Code)} {l : List Env} {s : Shared} {x d : Addr} {od : Obj} {c : Nat} {mv : Value} {mt : Option Int} {fl : List Nat} {Q E : Value → Shared → Prop}
    (H : Here (hd.heap_1 w.params) p loose mean mg mb (cx dp un gd l) l [x, d] s.heap) (hx : s.heap.get? x = some (instObj 86 d)) (hdd : s.heap.get? d = some od) (hS : SynD w.params od (sg c) mv (tx fl)) (hne : x ≠ d) (hm : MtIs mv mt) (hf : fl.length ≤ 8) (hdp : dp + 100 < 1000) (hun : un + 500 < 9900)
    (ret : ∀ h' tk t, Keep [] s.heap h' → (∃ as, Reads h' (.ref t) (itD c mt fl) as) → Q (.ref t) { s with heap := h', toks := tk }) :
    wpAny (model prog w) (cx dp un gd l) (call (.ref 221) [.ref x]) Q E s := by
  obtain ⟨u1, u2, u3, u4, u5, rfl⟩ := hS
  refine wpAny_call ?_
  k_dflt (refine' enter (K := hd.heap_1 w.params) (p := p) (loose := loose) (mean := mean) (mg := mg) (mb := mb) (l := l) (binds := [((PySem.Str.ofString "syntax"), .ref x)]) (D := [(x, instObj 86 d), (d, _)]) ?H ?ND ?ho ?hcd ?hroom ?hbind ?hloc ?_ ?c2 ?c3 ?c4 ?c5; (case H => exact H); (case ho => k_is); (case hcd => k_is); (case hroom => (show dp < 1000; omega)); (case hbind => exact BindsTo.of_eq rfl); (case hloc => exact locs rfl); (case c2 => exact rfl); (case c3 => exact rfl); (case c4 => exact rfl); (case c5 => decide); k_whole)
  case ND => 
    intro q hq
    simp only [List.mem_cons, List.not_mem_nil, or_false] at hq
    rcases hq with rfl | rfl
    · exact hx
    · exact hdd
  intro base g L' h₁ keep F' N' B' X' T' lt' sz'
  k_lt lt'
  (try dsimp only)
  try k_fold
  replace hne := neN hne
  cases hm
  all_goals (
    k_steps
    (rename Heap.IsList _ _ _ => hI; rename CarriedAll _ _ => hC; rename Fr _ _ _ _ => FF; rename News _ _ _ _ => NN)
    rw [signs_def, List.map_map, List.toList_toArray] at hC
    exact ret _ _ _ (Keep.two (fun b o e n => FF.keep b o (keep b o e n)) hx hdd NN (by k_mem) (by k_mem)) ⟨_, reads_tuple_at (NN.get (.head _)) rfl rfl (.cons (.str _ _) (.cons (mt_reads (by first | exact .none | exact .int _ _ (by omega) (by omega))) (.cons (reads_newData hI hC) .nil)))⟩)
section
variable {prog : Program} {w : World} {p : Program} {loose : List Str} {mean : ExcName → Option Value} {mg mb : Str → Option Value} {dp un : Nat} {gd : Option (List Code)} {s : Shared} {cn : Str} {cs : Scope} {L a : Addr} {ccd : Value} {cl : List (Str × Addr)} {outer : List Env} {A₀ : Around} {base h₀ : Heap} {m : Str → Option Value} {news : List (Addr × Obj)}
theorem items_call {x d : Addr} {od : Obj} {c : Nat} {mt : Option Int} {mv : Value} {fl : List Nat} {Q E : Value → Shared → Prop}
    (B : Below A₀ base outer h₀) (F : Fr h₀ L s.heap m) (X : (hd.heap_1 w.params).In h₀) (N : News h₀ L s.heap news) (TP : Top p loose mean mg mb h₀) (hk : cs.kind = .function) (mx : (x, instObj 86 d) ∈ news) (md : (d, od) ∈ news) (hS : SynD w.params od (sg c) mv (tx fl)) (hne : x ≠ d) (hm : MtIs mv mt) (hf : fl.length ≤ 8) (hdp : dp + 100 < 1000) (hun : un + 500 < 9900)
    (ret : ∀ h' tk t as, Fr h₀ L h' m → News h₀ L h' news → Reads h' (.ref t) (itD c mt fl) as → Q (.ref t) { s with heap := h', toks := tk }) :
    wpAny (model prog w) (ktrTop dp un gd cn cs L a ccd cl outer) (call (.ref 221) [.ref x]) Q E s :=
  items_spec (H := Here.of (D := [(x, instObj 86 d), (d, od)]) (A := ktrTop dp un gd cn cs L a ccd cl outer) B F X (News.one N mx (News.one N md News.none)) TP rfl rfl hk) (N _ mx).1 (N _ md).1 hS hne hm hf hdp hun fun h' tk t k ⟨as, hr⟩ => ret h' tk t as (back0 F N k).1 (back0 F N k).2 hr
end
end Mine
end

/- Same -/
section
open PySem PySem.W PySem.Calls PyProof.Rows
theorem Mine.restSame {prog : Program} {w : World} {A : Around} {env : Env} {Q : Flow → Shared → Prop} {E : Value → Shared → Prop} {s : Shared} (h : ∀ f s', Q f s') : wpAny (model prog w) A (execs [] env) Q E s := by
  k_with_none
  w_top off
  walk1
  exact h _ _
end
section
open PySem PySem.W PySem.Calls PyProof.Rows
namespace Mine
theorem ln112 : True := by
  k_with "mine room" => row_timed "fresh" (((try simp only [depth_under_make, depth_under_kw, depth_in1, depth_deeper, units_in1, units_deeper]); (try dsimp only [cx, ktrTop]); (try simp only [cLine]); omega))
  trivial
local macro_rules | `(tactic| k_room) => `(tactic| ((try simp only [depth_under_make, depth_under_kw, depth_in1, depth_deeper]); (try dsimp only [cx, ktrTop]); (try dsimp only [recursionLimit]); omega))
theorem ln113 : True := by
  k_with "sign is" => row_timed "fresh" (first | exact blank_is | exact dash_is | rfl | decide +kernel)
  k_with "compareOp Eq str str" => row_timed "fresh" ((k_here; first | with_reducible refine eq_nil_no ?_ | ((with_reducible refine' eq_sign_no ?sa ?sb ?_); (case sa => walk_at "sign is"); (case sb => omega)) | ((with_reducible refine' eq_sign_yes ?sa ?sb ?_); (case sa => walk_at "sign is"); (case sb => omega))))
  k_with "compareOp NotEq str str" => row_timed "fresh" ((k_here; first | ((with_reducible refine' ne_sign_no ?sa ?sb ?_); (case sa => walk_at "sign is"); (case sb => omega)) | ((with_reducible refine' ne_sign_yes ?sa ?sb ?_); (case sa => walk_at "sign is"); (case sb => omega))))
  k_with "compareOp In str str" => row_timed "fresh" ((k_here; first | ((with_reducible refine' in_known ?sa ?_); (case sa => walk_at "known sign")) | with_reducible refine in_sign ?_))
  k_with "compareOp NotIn str str" => row_timed "fresh" ((k_here; first | ((with_reducible refine' notIn_known ?sa ?_); (case sa => walk_at "known sign")) | with_reducible refine notIn_sign ?_))
  k_with "subscriptTail Name Constant str int" => row_timed "fresh" ((k_here; (with_reducible show wpAny _ _ (subscriptTail _ _ (Value.str _ _) (Value.int 0 _)) _ _ _); k_dflt (refine' at0 ?_ ?s ?t; (case s => with_unfolding_all rfl); (case t => kmk_pure)); intro t' k'))
  k_with "subscriptTail Name Constant str int" => row_timed "fresh" ((k_here; (with_reducible show wpAny _ _ (subscriptTail _ _ (Value.str _ _) (Value.int 1 _)) _ _ _); k_dflt (refine' at1 ?_ ?s ?t; (case s => with_unfolding_all rfl); (case t => kmk_pure)); intro t' k'))
  k_with "call builtin:len" => row_timed "fresh" ((k_here; (with_reducible show wpAny _ _ (call (Value.builtin "len") [Value.str _ _]) _ _ _); (with_reducible refine' len_tx ?sa ?_); (case sa => walk_at "few signs"); intro t' k'))
  k_with "few signs" => row_timed "fresh" (((try simp only [tx_len, List.length_cons, List.length_nil]); omega))
  k_with "call builtin:ord" => row_timed "fresh" ((k_here; (with_reducible refine ord_sg ?_); intro t' k'))
  k_with "compareOp Lt int int" => row_timed "fresh" ((k_here; first | ((with_reducible refine' lt_no ?sa ?_); (case sa => walk_at "lengths")) | ((with_reducible refine' lt_yes ?sa ?_); (case sa => walk_at "lengths"))))
  k_with "lengths" => row_timed "fresh" (((try simp only [List.length_cons, List.length_nil]); omega))
  k_with "subscriptTail Name Slice str ref" => row_timed "fresh" ((k_here; (with_reducible show wpAny _ _ (subscriptTail _ (PySem.Expr.Slice (some _) none none _) (Value.str _ _) (Value.ref _)) _ _ _); k_dflt (refine' tail2 ?F ?N ?e ?l ?_ ?s ?t; (case F => k_asm); (case N => k_asm); (case e => first | exact from2 | exact from2s); (case l => walk_at "few signs"); (case s => with_unfolding_all rfl); (case t => kmk_pure)); intro h' t' k' F' N'; (try dsimp only at N'); (try k_sweep)))
  k_with "known sign" => row_timed "fresh" (first | assumption | decide +kernel)
  trivial
section
variable {prog : Program} {w : World} {A : Around} {E : Value → Shared → Prop} {s : Shared} {X : Str} {t u : Tok} {a b : Int} {Q : Value → Shared → Prop}
theorem eq_text_same (h : Q (.bool true) s) : wpAny (model prog w) A (compareOp .Eq (.str X t) (.str X u)) Q E s := by
  refine eq_str ?_
  rw [beq_self_eq_true]; exact h
theorem eq_int_same (h : Q (.bool true) s) : wpAny (model prog w) A (compareOp .Eq (.int a t) (.int a u)) Q E s := by
  refine eq_int ?_
  simpa using h
end
theorem ln127 : True := by
  k_with "compareOp Eq str str" => row_timed "fresh" ((k_here; with_reducible refine eq_text_same ?_))
  k_with "compareOp Eq int int" => row_timed "fresh" ((k_here; with_reducible refine eq_int_same ?_))
  trivial
set_option maxHeartbeats 4000000 in
theorem same_spec {prog : Program} {w : World} {p : Program} {loose : List Str} {mean : ExcName → Option Value} {mg mb : Str → Option Value} {dp un : Nat} {gd : Option (List Code)} {l : List Env} {s : Shared} {x d x2 d2 : Addr} {od od2 : Obj} {c : Nat} {mv mv2 : Value} {mt : Option Int} {fl : List Nat} {Q E : Value → Shared → Prop}
    (H : Here (hd.heap_1 w.params) p loose mean mg mb (cx dp un gd l) l [x, d, x2, d2] s.heap) (hx : s.heap.get? x = some (instObj 86 d)) (hdd : s.heap.get? d = some od) (hx2 : s.heap.get? x2 = some (instObj 86 d2)) (hdd2 : s.heap.get? d2 = some od2) (hS : SynD w.params od (sg c) mv (tx fl)) (hS2 : SynD w.params od2 (sg c) mv2 (tx fl)) (n1 : x ≠ d) (n2 : x ≠ x2) (n3 : x ≠ d2) (n4 : d ≠ x2) (n5 : d ≠ d2) (n6 : x2 ≠ d2) (hm : MtIs mv mt) (hm2 : MtIs mv2 mt) (hdp : dp + 100 < 1000) (hun : un + 500 < 9900)
    (ret : ∀ h' tk, Keep [] s.heap h' → Q (.bool true) { s with heap := h', toks := tk }) :
    wpAny (model prog w) (cx dp un gd l) (call (.ref 114) [.ref x, .ref x2]) Q E s := by
  obtain ⟨u1, u2, u3, u4, u5, rfl⟩ := hS
  obtain ⟨v1, v2, v3, v4, v5, rfl⟩ := hS2
  refine wpAny_call ?_
  k_dflt (refine' enter (K := hd.heap_1 w.params) (p := p) (loose := loose) (mean := mean) (mg := mg) (mb := mb) (l := l) (binds := [((PySem.Str.ofString "one"), .ref x), ((PySem.Str.ofString "other"), .ref x2)]) (D := [(x, instObj 86 d), (d, _), (x2, instObj 86 d2), (d2, _)]) ?H ?ND ?ho ?hcd ?hroom ?hbind ?hloc ?_ ?c2 ?c3 ?c4 ?c5; (case H => exact H); (case ho => k_is); (case hcd => k_is); (case hroom => (show dp < 1000; omega)); (case hbind => exact BindsTo.of_eq rfl); (case hloc => exact locs rfl); (case c2 => exact rfl); (case c3 => exact rfl); (case c4 => exact rfl); (case c5 => decide); k_whole)
  case ND => 
    intro q hq
    simp only [List.mem_cons, List.not_mem_nil, or_false] at hq
    rcases hq with rfl | rfl | rfl | rfl
    · exact hx
    · exact hdd
    · exact hx2
    · exact hdd2
  intro base g L' h₁ keep F' N' B' X' T' lt' sz'
  k_lt lt'
  (try dsimp only)
  try k_fold
  replace n1 := neN n1
  replace n2 := neN n2
  replace n3 := neN n3
  replace n4 := neN n4
  replace n5 := neN n5
  replace n6 := neN n6
  cases hm
  all_goals cases hm2
  all_goals (
    k_steps
    (rename Fr _ _ _ _ => FF; rename News _ _ _ _ => NN)
    exact ret _ _ (Keep.drop (Keep.drop (Keep.drop (Keep.drop (fun b o e n => FF.keep b o (keep b o e n)) hx (NN.get (by k_mem))) hdd (NN.get (by k_mem))) hx2 (NN.get (by k_mem))) hdd2 (NN.get (by k_mem))))
section
variable {prog : Program} {w : World} {p : Program} {loose : List Str} {mean : ExcName → Option Value} {mg mb : Str → Option Value} {dp un : Nat} {gd : Option (List Code)} {s : Shared} {cn : Str} {cs : Scope} {L a : Addr} {ccd : Value} {cl : List (Str × Addr)} {outer : List Env} {A₀ : Around} {base h₀ : Heap} {m : Str → Option Value} {news : List (Addr × Obj)}
theorem same_call {x d x2 d2 : Addr} {od od2 : Obj} {c : Nat} {mv mv2 : Value} {mt : Option Int} {fl : List Nat} {Q E : Value → Shared → Prop}
    (B : Below A₀ base outer h₀) (F : Fr h₀ L s.heap m) (X : (hd.heap_1 w.params).In h₀) (N : News h₀ L s.heap news) (TP : Top p loose mean mg mb h₀) (hk : cs.kind = .function) (mx : (x, instObj 86 d) ∈ news) (md : (d, od) ∈ news) (mx2 : (x2, instObj 86 d2) ∈ news) (md2 : (d2, od2) ∈ news) (hS : SynD w.params od (sg c) mv (tx fl)) (hS2 : SynD w.params od2 (sg c) mv2 (tx fl)) (n1 : x ≠ d) (n2 : x ≠ x2) (n3 : x ≠ d2) (n4 : d ≠ x2) (n5 : d ≠ d2) (n6 : x2 ≠ d2) (hm : MtIs mv mt) (hm2 : MtIs mv2 mt) (hdp : dp + 100 < 1000) (hun : un + 500 < 9900)
    (ret : ∀ h' tk, Fr h₀ L h' m → News h₀ L h' news → Q (.bool true) { s with heap := h', toks := tk }) :
    wpAny (model prog w) (ktrTop dp un gd cn cs L a ccd cl outer) (call (.ref 114) [.ref x, .ref x2]) Q E s :=
  same_spec (H := Here.of (D := [(x, instObj 86 d), (d, od), (x2, instObj 86 d2), (d2, od2)]) (A := ktrTop dp un gd cn cs L a ccd cl outer) B F X (News.one N mx (News.one N md (News.one N mx2 (News.one N md2 News.none)))) TP rfl rfl hk) (N _ mx).1 (N _ md).1 (N _ mx2).1 (N _ md2).1 hS hS2 n1 n2 n3 n4 n5 n6 hm hm2 hdp hun fun h' tk k => ret h' tk (back0 F N k).1 (back0 F N k).2
end
end Mine
end

/- RightA -/
section
open PySem PySem.W PySem.Calls PyProof.Rows
theorem Mine.restRightA {prog : Program} {w : World} {A : Around} {env : Env} {Q : Flow → Shared → Prop} {E : Value → Shared → Prop} {s : Shared} (h : ∀ f s', Q f s') : wpAny (model prog w) A (execs [] env) Q E s := by
  k_with_none
  w_top off
  walk1
  exact h _ _
end
section
open PySem PySem.W PySem.Calls PyProof.Rows
namespace Mine

section
variable {prog : Program} {w : World} {A : Around} {E : Value → Shared → Prop} {s : Shared} {h₀ : Heap} {L : Addr} {m : Str → Option Value} {news : List (Addr × Obj)} {Q : Value → Shared → Prop}
theorem sg_list_mem {fl : List Nat} {c : Nat} : (fl.map sg).any (· == sg c) = decide (c ∈ fl) := by
  induction fl with
  | nil => rfl
  | cons b r ih =>
    rw [List.map_cons, List.any_cons, ih]
    by_cases e : c = b
    · subst e; simp
    · have : (sg b == sg c) = false := by
        rw [beq_eq_false_iff_ne]; intro z; injection z with z; simp at z; exact e z.symm
      rw [this]; simp [e]
theorem in_sg {l : Addr} {n : Nat} {ys : List Value} {fl : List Nat} {c : Nat} {t : Tok} (hl : s.heap.get? l = some (W.listOf ys.toArray n)) (hs : Sg ys fl) (h : Q (.bool (decide (c ∈ fl))) s) : wpAny (model prog w) A (compareOp .In (.str (sg c) t) (.ref l)) Q E s :=
  in_list_strs (IsL.isList (n := n) hl) hs.strs (by rw [sg_list_mem]; exact h)
theorem kc_lt {c : Nat} (h : c ∈ KC) : c < 128 := by
  have : ∀ c ∈ KC, c < 128 := by decide
  exact this c h
theorem bools_reads {h : Heap} {vs : List Value} {bs : List Bool} (k : LSm.BoolsAre vs bs) : ReadsAll h vs (bs.map .bool) [] := by
  induction k with
  | nil => exact .nil
  | cons b _ ih => exact .cons (.bool _) ih
theorem bools_shaped {bs : List Bool} : SeqAt.shaped (.list (bs.map .bool)) = true := by
  have a : PyData.canLayAll0 (bs.map .bool) = true := by
    induction bs with
    | nil => rfl
    | cons b r ih => simp [PyData.canLayAll0, PyData.canLay0, ih]
  have b : PyData.depthAll (bs.map .bool) = 0 := by
    clear a
    induction bs with
    | nil => rfl
    | cons b r ih => simp [PyData.depthAll, PyData.depth, ih]
  simp [SeqAt.shaped, PyData.canLay0, PyData.depth, a, b]
theorem bools_ne {la lb : Addr} {n k : Nat} {vs ws : List Value} {bs : List Bool} (ha : s.heap.get? la = some (W.listOf vs.toArray n)) (hb : s.heap.get? lb = some (W.listOf ws.toArray k)) (k1 : LSm.BoolsAre vs bs) (k2 : LSm.BoolsAre ws bs) (hu : A.units + 64 < cLine) (h : Q (.bool false) s) :
    wpAny (model prog w) A (compareOp .NotEq (.ref la) (.ref lb)) Q E s := by
  refine ne_dataH (da := .list (bs.map .bool)) (db := .list (bs.map .bool)) (reads_list_at ha rfl rfl (by simpa using bools_reads k1)) (reads_list_at hb rfl rfl (by simpa using bools_reads k2)) bools_shaped bools_shaped hu ?_
  have e : ∀ bs : List Bool, PyData.eqvAll (bs.map .bool) (bs.map .bool) = true := fun bs => by
    induction bs with
    | nil => rfl
    | cons b r ih => cases b <;> simp [PyData.eqvAll, PyData.eqv, ih]
  rw [show PyData.eqv (.list (bs.map .bool)) (.list (bs.map .bool)) = true from by simp [PyData.eqv, e]]
  exact h
/-- the flags' test -/
def HJ (fl : List Nat) (C : List (Addr × Obj)) (i : Nat) (ys : List Value) (news : List (Addr × Obj)) : Prop := news = C ∧ LSm.BoolsAre ys ((FC.take i).map fun x => decide (x ∈ fl))
theorem has_snoc {fl l : List Nat} {i c : Nat} {ys : List Value} (k : LSm.BoolsAre ys ((l.take i).map fun x => decide (x ∈ fl))) (hc : l[i]? = some c) : LSm.BoolsAre (ys ++ [.bool (decide (c ∈ fl))]) ((l.take (i + 1)).map fun x => decide (x ∈ fl)) := by
  rw [List.take_add_one, hc, List.map_append]
  exact BoolsAre.snoc k _
theorem mtD_layable {mt : Option Int} (h : mt = none ∨ ∃ m : Int, mt = some m ∧ 97 ≤ m ∧ m ≤ 99) : (mtD mt).canLay0 = true ∧ (mtD mt).depth = 0 := by
  rcases h with rfl | ⟨m, rfl, a, b⟩
  · exact ⟨rfl, rfl⟩
  · have e : m = 97 ∨ m = 98 ∨ m = 99 := by omega
    rcases e with rfl | rfl | rfl <;> exact ⟨by decide +kernel, by decide +kernel⟩
theorem it_shaped {c : Nat} {mt : Option Int} {fl : List Nat} (hc : c < 128) (hm : mt = none ∨ ∃ m : Int, mt = some m ∧ 97 ≤ m ∧ m ≤ 99) (hf : ∀ c ∈ fl, c < 128) : SeqAt.shaped (itD c mt fl) = true := by
  have k1 := signs_shaped hf
  simp only [SeqAt.shaped, PyData.canLay0, Bool.and_eq_true] at k1
  obtain ⟨e1, e2⟩ := mtD_layable hm
  have k2 : PyData.depthAll (fl.map fun c => PyData.str (sg c)) = 0 := by
    clear k1 hf
    induction fl with
    | nil => rfl
    | cons b r ih => simp [PyData.depthAll, PyData.depth, ih]
  simp [SeqAt.shaped, itD, PyData.canLay0, PyData.canLayAll0, PyData.depth, PyData.depthAll, e1, e2, sg_ok hc, k1.1, k2]
theorem it_eqv {c : Nat} {mt : Option Int} {fl : List Nat} : PyData.eqv (itD c mt fl) (itD c mt fl) = true := by
  have e : ∀ fl : List Nat, PyData.eqvAll (fl.map fun c => PyData.str (sg c)) (fl.map fun c => PyData.str (sg c)) = true := fun fl => by
    induction fl with
    | nil => rfl
    | cons b r ih => simp [PyData.eqvAll, PyData.eqv, ih]
  have e2 : PyData.eqv (mtD mt) (mtD mt) = true := by cases mt <;> simp [mtD, PyData.eqv]
  simp [itD, PyData.eqv, PyData.eqvAll, e, e2]
/-- the law's known reads as the items -/
theorem known_reads {h : Heap} {x fa : Addr} {c : Nat} {t : Tok} {mv : Value} {mt : Option Int} {ys : List Value} {fl : List Nat} (hx : h.get? x = some (tupO (.str (sg c) t) mv (.ref fa))) (hf : h.get? fa = some (LCg.lst ys)) (hm : MtIs mv mt) (hs : Sg ys fl) : ∃ as, Reads h (.ref x) (itD c mt fl) as :=
  ⟨_, reads_tuple_at hx rfl rfl (.cons (.str _ _) (.cons (mt_reads hm) (.cons (reads_list_at hf rfl rfl (by simpa using hs.reads)) .nil)))⟩
theorem items_ne {t x fa : Addr} {as : List Addr} {c : Nat} {t1 : Tok} {mv : Value} {mt : Option Int} {ys : List Value} {fl : List Nat} (ra : Reads s.heap (.ref t) (itD c mt fl) as) (hx : s.heap.get? x = some (tupO (.str (sg c) t1) mv (.ref fa))) (hfa : s.heap.get? fa = some (LCg.lst ys)) (hc : c ∈ KC) (hm : MtIs mv mt) (hs : Sg ys fl) (hf : fl.Sublist FC)
    (hu : A.units + 64 < cLine) (h : Q (.bool false) s) : wpAny (model prog w) A (compareOp .NotEq (.ref t) (.ref x)) Q E s := by
  obtain ⟨bs, rb⟩ := known_reads hx hfa hm hs
  have sh := it_shaped (fl := fl) (kc_lt hc) (mt_cases hm) (fc_plain hf)
  refine ne_dataH ra rb sh sh hu ?_
  rw [it_eqv]; exact h
end
end Mine
end

/- Has -/
section
open PySem PySem.W PySem.Calls PyProof.Rows
theorem Mine.restHas {prog : Program} {w : World} {A : Around} {env : Env} {Q : Flow → Shared → Prop} {E : Value → Shared → Prop} {s : Shared} (h : ∀ f s', Q f s') : wpAny (model prog w) A (execs [] env) Q E s := by
  k_with_none
  w_top off
  walk1
  exact h _ _
end
section
open PySem PySem.W PySem.Calls PyProof.Rows
namespace Mine
theorem ln129 : True := by
  k_with "mine room" => row_timed "fresh" (((try simp only [depth_under_make, depth_under_kw, depth_in1, depth_deeper, units_in1, units_deeper]); (try dsimp only [cx, ktrTop]); (try simp only [cLine]); omega))
  trivial
local macro_rules | `(tactic| k_room) => `(tactic| ((try simp only [depth_under_make, depth_under_kw, depth_in1, depth_deeper]); (try dsimp only [cx, ktrTop]); (try dsimp only [recursionLimit]); omega))

theorem ln130 : True := by
  k_with "compareOp In str str" => row_timed "fresh" ((k_here; (with_reducible refine in_sign ?_)))
  trivial
set_option maxHeartbeats 4000000 in
theorem has_spec {prog : Program} {w : World} {p : Program} {loose : List Str} {mean : ExcName → Option Value} {mg mb : Str → Option Value} {dp un : Nat} {gd : Option (List Code)} {l : List Env} {s : Shared} {x d : Addr} {od : Obj} {k : Str} {mv : Value} {fl : List Nat} {c : Nat} {u : Tok} {Q E : Value → Shared → Prop}
    (H : Here (hd.heap_1 w.params) p loose mean mg mb (cx dp un gd l) l [x, d] s.heap) (hx : s.heap.get? x = some (instObj 86 d)) (hdd : s.heap.get? d = some od) (hS : SynD w.params od k mv (tx fl)) (hne : x ≠ d) (hdp : dp + 100 < 1000) (hun : un + 500 < 9900)
    (ret : ∀ h' tk, Keep [] s.heap h' → Q (.bool (decide (c ∈ fl))) { s with heap := h', toks := tk }) :
    wpAny (model prog w) (cx dp un gd l) (call (.ref 62) [.ref x, .str (sg c) u]) Q E s := by
  obtain ⟨u1, u2, u3, u4, u5, rfl⟩ := hS
  refine wpAny_call ?_
  k_dflt (refine' enter (K := hd.heap_1 w.params) (p := p) (loose := loose) (mean := mean) (mg := mg) (mb := mb) (l := l) (binds := [((PySem.Str.ofString "self"), .ref x), ((PySem.Str.ofString "flag"), .str (sg c) u)]) (D := [(x, instObj 86 d), (d, _)]) ?H ?ND ?ho ?hcd ?hroom ?hbind ?hloc ?_ ?c2 ?c3 ?c4 ?c5; (case H => exact H); (case ho => k_is); (case hcd => k_is); (case hroom => (show dp < 1000; omega)); (case hbind => exact BindsTo.of_eq rfl); (case hloc => exact locs rfl); (case c2 => exact rfl); (case c3 => exact rfl); (case c4 => exact rfl); (case c5 => decide); k_whole)
  case ND => 
    intro q hq
    simp only [List.mem_cons, List.not_mem_nil, or_false] at hq
    rcases hq with rfl | rfl
    · exact hx
    · exact hdd
  intro base g L' h₁ keep F' N' B' X' T' lt' sz'
  k_lt lt'
  (try dsimp only)
  try k_fold
  replace hne := neN hne
  k_steps
  (rename Fr _ _ _ _ => FF; rename News _ _ _ _ => NN)
  exact ret _ _ (Keep.two (fun b o e n => FF.keep b o (keep b o e n)) hx hdd NN (by k_mem) (by k_mem))
section
variable {prog : Program} {w : World} {p : Program} {loose : List Str} {mean : ExcName → Option Value} {mg mb : Str → Option Value} {dp un : Nat} {gd : Option (List Code)} {s : Shared} {cn : Str} {cs : Scope} {L a : Addr} {ccd : Value} {cl : List (Str × Addr)} {outer : List Env} {A₀ : Around} {base h₀ : Heap} {m : Str → Option Value} {news : List (Addr × Obj)}
theorem has_call {x d : Addr} {od : Obj} {k : Str} {mv : Value} {fl : List Nat} {c : Nat} {u : Tok} {Q E : Value → Shared → Prop}
    (B : Below A₀ base outer h₀) (F : Fr h₀ L s.heap m) (X : (hd.heap_1 w.params).In h₀) (N : News h₀ L s.heap news) (TP : Top p loose mean mg mb h₀) (hk : cs.kind = .function) (mx : (x, instObj 86 d) ∈ news) (md : (d, od) ∈ news) (hS : SynD w.params od k mv (tx fl)) (hne : x ≠ d) (hdp : dp + 100 < 1000) (hun : un + 500 < 9900)
    (ret : ∀ h' tk, Fr h₀ L h' m → News h₀ L h' news → Q (.bool (decide (c ∈ fl))) { s with heap := h', toks := tk }) :
    wpAny (model prog w) (ktrTop dp un gd cn cs L a ccd cl outer) (call (.ref 62) [.ref x, .str (sg c) u]) Q E s :=
  has_spec (H := Here.of (D := [(x, instObj 86 d), (d, od)]) (A := ktrTop dp un gd cn cs L a ccd cl outer) B F X (News.one N mx (News.one N md News.none)) TP rfl rfl hk) (N _ mx).1 (N _ md).1 hS hne hdp hun fun h' tk k => ret h' tk (back0 F N k).1 (back0 F N k).2
end
end Mine
end

/- Caught -/
section
open PySem PySem.W PySem.Calls PyProof.Rows
theorem Mine.restCaught {prog : Program} {w : World} {A : Around} {env : Env} {Q : Flow → Shared → Prop} {E : Value → Shared → Prop} {s : Shared} (h : ∀ f s', Q f s') : wpAny (model prog w) A (execs [] env) Q E s := by
  k_with_none
  w_top off
  walk1
  exact h _ _
end
section
open PySem PySem.W PySem.Calls PyProof.Rows
namespace Mine
def BadT (T : Str) : Prop := T = Str.ofString "" ∨ T = Str.ofString "x" ∨ T = Str.ofString "a" ∨ T = Str.ofString "w x" ∨ T = Str.ofString "w a9"
section
variable {prog : Program} {w : World} {p : Program} {loose : List Str} {mean : ExcName → Option Value} {mg mb : Str → Option Value} {dp un : Nat} {gd : Option (List Code)} {l : List Env} {s : Shared}
theorem bad_any {T : Str} {t : Tok} {Q E : Value → Shared → Prop} (H : Here (hd.heap_1 w.params) p loose mean mg mb (cx dp un gd l) l [] s.heap) (hdp : dp + 100 < 1000) (hun : un + 500 < 9900) (hb : BadT T)
    (exc : ∀ h' tk e dx mA, Fly (l.filterMap (·.frame)) s.heap h' e dx mA .none → s.heap.get? e = none → (∃ ts, mA (Str.ofString "symbol") = some (.str (Str.ofString "error") ts)) → E (.ref e) { s with heap := h', toks := tk }) :
    wpAny (model prog w) (cx dp un gd l) (call (.ref 100) [.str T t]) Q E s := by
  rcases hb with rfl | rfl | rfl | rfl | rfl
  · exact bad_0 (c' := 0) (hs := []) H hdp hun exc
  · rw [show Str.ofString "x" = tx [120] from by decide +kernel]
    exact bad_1 (hs := []) H hdp hun (by decide +kernel) (by decide) exc
  · rw [show Str.ofString "a" = tx [97] from by decide +kernel]
    exact bad_1 (hs := []) H hdp hun (by decide +kernel) (by decide) exc
  · rw [show Str.ofString "w x" = tx (119 :: 32 :: [120]) from by decide +kernel]
    exact bad_2 (c' := 0) H hdp hun (by decide) (by decide) (by decide +kernel) exc
  · rw [show Str.ofString "w a9" = tx (119 :: 32 :: [97, 57]) from by decide +kernel]
    exact bad_2 (c' := 0) H hdp hun (by decide) (by decide) (by decide +kernel) exc

theorem sig_bound (P : Params) : nsIn (hd.heap_1 P) mainGlobals (Str.ofString "LispSignal") = some (some (.ref 38)) := by with_unfolding_all rfl

/-- the law's try: a bad description is refused -/
theorem caught {name : Str} {scope : Scope} {cd : Value} {cl : List (Str × Addr)} {base g : Heap} {L a : Addr} {m : Str → Option Value} {T : Str} {t : Tok} {Q : Flow → Shared → Prop} {E : Value → Shared → Prop} {Qc : Value → Shared → Prop} {p1 p2 p3 p4 p5 p6 p7 : Pos} {kx : Nat}
    (B : Below (cx dp un gd l) base l g) (F : Fr g L s.heap m) (X : (hd.heap_1 w.params).In g) (TP : Top p loose mean mg mb g) (Xb : (hd.heap_1 w.params).In base) (Tb : Top p loose mean mg mb base) (hb : BadT T)
    (hkf : scope.kind = .function) (k1 : (envX name scope L a cd cl).kindOf (Str.ofString "LispSignal") = some .globalImplicit) (k2 : (envX name scope L a cd cl).kindOf (Str.ofString "error") = some .local) (hms : m (Str.ofString "symbol") = none) (hms2 : m (Str.ofString "data") = none)
    (hdp : dp + 150 < 1000) (hun : un + 600 < 9900)
    (ret : ∀ h' tk, (∀ b o, s.heap.get? b = some o → b ≠ L → b ∉ l.filterMap (·.frame) → h'.get? b = some o) → (∀ b o, s.heap.get? b = some o → b ≠ L → b ∈ l.filterMap (·.frame) → ∃ sl, h'.get? b = some { o with slots := sl }) → Q (.ret (.bool true)) { s with heap := h', toks := tk }) :
    wpAny (model prog w) ((cx dp un gd l).deeper (envX name scope L a cd cl)) (call (.ref 100) [.str T t]) Qc
      (fun e s₁ => wpAny (model prog w) ((cx dp un gd l).deeper (envX name scope L a cd cl)) (noteFrame e (envX name scope L a cd cl)) (fun _ s₂ => wpAny (model prog w) ((cx dp un gd l).deeper (envX name scope L a cd cl)) (setFlight e none) (fun _ s₃ =>
        wpAny (model prog w) ((cx dp un gd l).deeper (envX name scope L a cd cl)) (handleBy e (envX name scope L a cd cl) [ExceptHandler.ExceptHandler (some (.Name (Str.ofString "LispSignal") p1)) (some (Str.ofString "error")) [.Return (some (.Compare (.Attribute (.Name (Str.ofString "error") p2) (Str.ofString "symbol") p3) [.Eq] [.Constant (.str (Str.ofString "error")) kx p4] p5)) p6] p7]) Q E s₃) E s₂) E s₁) s := by
  have BF : Below ((cx dp un gd l).deeper (envX name scope L a cd cl)) base (envX name scope L a cd cl :: l) s.heap := by
    refine ⟨rfl, fun b o z => F.keep b o (B.stays b o z), ?_⟩
    refine .cons (by show scope.kind ≠ .module; rw [hkf]; decide) rfl F.ns ?_ (B.frames.of_keeps fun b o e _ => ⟨o, F.keep b o e, rfl⟩)
    cases q : base.get? L with
    | none => rfl
    | some o =>
      have := Heap.lt_size (B.stays _ _ q)
      exact absurd (Nat.lt_of_lt_of_le this F.above) (Nat.lt_irrefl _)
  refine bad_any (l := envX name scope L a cd cl :: l) (H := Here.of (D := []) (A := (cx dp un gd l).deeper (envX name scope L a cd cl)) B F X (fun _ h => by cases h) TP rfl rfl hkf) (by show dp + 1 + 100 < 1000; omega) (by simp only [units_deeper]; (try dsimp only [cx]); omega) hb ?_
  intro h1 tk1 e dx mA Y he ⟨ts, hmA⟩
  have st : ∀ b o, s.heap.get? b = some o → b ≠ e := fun b o z q => by rw [q, he] at z; cases z
  have hLb : base.get? L = none := by
    cases q : base.get? L with
    | none => rfl
    | some o =>
      have := Heap.lt_size (B.stays _ _ q)
      exact absurd (Nat.lt_of_lt_of_le this F.above) (Nat.lt_irrefl _)
  have ff : ∀ h', Up ((envX name scope L a cd cl :: l).filterMap (·.frame)) e s.heap h' → h'.FunFrames base (envX name scope L a cd cl :: l) := fun h' U =>
    BF.frames.of_keeps fun b o z _ => by
      obtain ⟨sl, q⟩ := U.size (st b o z) z
      exact ⟨_, q, rfl⟩
  have hgL : g.get? L = none := Heap.get?_none_of_le F.above
  have Xg : (hd.heap_1 w.params).In (hideAll g (l.filterMap (·.frame))) := Xb.keeps fun b o z => hideAll_get _ (B.stays b o z) fun hm => by
    have := (B.frames.mem hm).1
    rw [z] at this; cases this
  have Tg : Top p loose mean mg mb (hideAll g (l.filterMap (·.frame))) := Tb.keeps fun b o z => hideAll_get _ (B.stays b o z) fun hm => by
    have := (B.frames.mem hm).1
    rw [z] at this; cases this
  have fr : ∀ h', Up ((envX name scope L a cd cl :: l).filterMap (·.frame)) e s.heap h' → Fr (hideAll g (l.filterMap (·.frame))) L h' m := fun h' U => by
    obtain ⟨oL, es, ep, hL, hd', hk, hfnd⟩ := F.ns
    obtain ⟨sl, q⟩ := U.size (st _ _ hL) hL
    refine ⟨⟨_, es, ep, q, hd', hk, hfnd⟩, fun b o z => ?_, Nat.le_trans (Nat.le_of_eq (hideAll_size _ _)) F.above⟩
    have zg := of_hideAll _ z
    refine U.1 b o (st _ _ (F.keep b o zg)) (fun hm => ?_) (F.keep b o zg)
    rcases List.mem_cons.mp hm with hm | hm
    · subst hm; rw [hgL] at zg; cases zg
    · rw [hideAll_none _ hm] at z; cases z
  refine note2 rfl (ff _ Y.up) rfl Y fun h2 Y2 => ?_
  refine flight Y2 fun h3 Y3 _ => ?_
  have F3 := fr h3 Y3.up
  have X3 := Xg.keeps F3.keep
  refine wpAny_handleBy_cons (codeAny_handlers_test (nameX_K F3 Xg (topRead_of Tg) (sig_bound _) ?_ hkf k1)) (by intro q; cases q)
  obtain ⟨vs, T0, oT, ts0, hge, _⟩ := Y3.obj
  obtain ⟨nm, q, bs, sn, sub, ab, col, dd, q0, q1, q2, q3, q5, hC⟩ := sig_cls X3
  refine wpAny_excMatches_sub_self hC hge rfl (by decide +kernel) (codeAny_handlers_suite_as ?_)
  refine flight Y3 fun h4 Y4 _ => ?_
  have F4 := fr h4 Y4.up
  have hpk : ((envX name scope L a cd cl).scope.kind == .class || ((envX name scope L a cd cl).scope.kind == .module && (envX name scope L a cd cl).locals != (envX name scope L a cd cl).globals)) = false := by
    show (scope.kind == .class || (scope.kind == .module && _)) = false
    rw [hkf]; rfl
  obtain ⟨oL, es, ep, hL4, hdL, hkL, hfL⟩ := F4.ns
  refine wpAny_storeName_local k2 F4.ns (fun h5 hn5 hs5 => ?_) hpk
  have hs5' : ∀ b, b ≠ L → h5.get? b = h4.get? b := fun b hb => hs5.2 b hb
  obtain ⟨vs4, T4, oT4, ts4, hge4, _⟩ := Y4.obj
  have heL : e ≠ L := fun q => by
    rw [q, hL4] at hge4; cases hge4; cases hdL
  have hge5 := (hs5' e heL).trans hge4
  have F5 : Fr (hideAll g (l.filterMap (·.frame))) L h5 _ := ⟨hn5, fun b o z => (hs5' b (fun q => by
    rw [q] at z
    have := of_hideAll _ z
    rw [hgL] at this; cases this)).trans (F4.keep b o z), F4.above⟩
  have X5 := Xg.keeps F5.keep
  have I5 : h5.InstFk e 38 mA := by
    obtain ⟨o, ho, hc, hnc, hd'⟩ := Y4.inst
    rw [hge4] at ho; cases ho
    refine ⟨_, hge5, rfl, fun c => by simp, ?_⟩
    rcases hd' with ⟨z, _⟩ | ⟨d, z, hne, hns, hed⟩
    · cases z
    · cases z
      obtain ⟨oD, esD, epD, gD, r1, r2, r3, r4⟩ := hns
      have hdxL : dx ≠ L := fun q => by
        subst q
        rw [hL4] at gD; cases gD
        rw [hdL] at r1; cases r1
        have e1 := hfL (Str.ofString "symbol")
        have e2 := r4 (Str.ofString "symbol")
        rw [e1, hmA, hms] at e2; cases e2
      obtain ⟨oE, gE, c1, c2⟩ := hed
      exact .inr ⟨dx, rfl, hne, ⟨_, esD, epD, (hs5' _ hdxL).trans gD, r1, r2, r3, r4⟩, ⟨_, (hs5' _ hdxL).trans gE, c1, c2⟩⟩
  obtain ⟨nm, q, bs, sn, sub, ab, col, dd, q0, q1, q2, q3, q5, hC5⟩ := sig_cls X5
  refine wpAny_execs_cons (wpAny_Return_some (wpAny_Compare1 (Attribute_name (nameX_L F5 (if_pos rfl) ?_ hkf k2))))
  refine exc_attr PySem.F.attrBase_Exception hC5 (sig_ns X5) (sig_none X5 (sig_no2 _)) (sig_none X5 (sig_no3 _)) (sig_none X5 (sig_no4 _)) no_symbol I5 hmA rfl ?_
  refine Constant_str ?_
  refine eq_text_same ?_
  refine wpAny_nameGoes k2 F5.ns hpk fun h6 m6 hn6 hs6 => ?_
  have up6 : ∀ b o, s.heap.get? b = some o → b ≠ L → h6.get? b = h4.get? b := fun b o _ hb => (hs6.2 b hb).trans (hs5' b hb)
  exact ret h6 _ (fun b o z1 z2 z3 => (up6 b o z1 z2).trans (Y4.up.1 b o (st b o z1) (by
      intro hm
      rcases List.mem_cons.mp hm with hm | hm
      · exact z2 hm
      · exact z3 hm) z1)) (fun b o z1 z2 z3 => by
      obtain ⟨sl, q⟩ := Y4.up.2 b o (st b o z1) (List.mem_cons_of_mem _ z3) z1
      exact ⟨sl, (up6 b o z1 z2).trans q⟩)
end
end Mine
end

/- Right -/
section
open PySem PySem.W PySem.Calls PyProof.Rows
theorem Mine.restRight {prog : Program} {w : World} {A : Around} {env : Env} {Q : Flow → Shared → Prop} {E : Value → Shared → Prop} {s : Shared} (h : ∀ f s', Q f s') : wpAny (model prog w) A (execs [] env) Q E s := by
  k_with_none
  w_top off
  walk1
  exact h _ _
end
section
open PySem PySem.W PySem.Calls PyProof.Rows
namespace Mine
theorem ln131 : True := by
  k_with "mine room" => row_timed "fresh" (((try simp only [depth_under_make, depth_under_kw, depth_in1, depth_deeper, units_in1, units_deeper]); (try dsimp only [cx, ktrTop]); (try simp only [cLine]); omega))
  trivial
local macro_rules | `(tactic| k_room) => `(tactic| ((try simp only [depth_under_make, depth_under_kw, depth_in1, depth_deeper]); (try dsimp only [cx, ktrTop]); (try dsimp only [recursionLimit]); omega))
theorem ln132 : True := by
  k_with "eval ListComp" => row_timed "fresh" ((k_here; (with_reducible show wpAny _ _ (eval (PySem.Expr.ListComp _ [⟨_, _, [], _⟩] _ _) _) _ _ _); k_dflt (refine ListComp_SU (F₀ := by k_asm) (by with_unfolding_all rfl) (by decide) (by rfl) (by decide) (by rfl) ?_)))
  k_with "CompEnd" => row_timed "fresh" (((try dsimp only); k_dflt (refine ⟨_, _, _, rfl, by with_reducible assumption, by with_reducible assumption, by first | with_reducible assumption | lcg_off, trivial, ?_⟩)))
  k_with "call ref" => row_timed "fresh" ((k_here; (with_reducible show wpAny _ _ (call (Value.ref 197) [Value.ref _, Value.int _ _]) _ _ _); k_dflt (refine' draw_call ?k1 ?k2 ?k3 ?k4 ?k5 ?kk ?D ?ne ?U ?U2 ?d1 ?d2 ?m1 ?m2 ?_; (case k1 => k_asm); (case k2 => k_asm); (case k3 => k_asm); (case k4 => k_asm); (case k5 => k_asm); (case kk => exact rfl); (case D => with_reducible assumption); (case U => k_updF); (case U2 => (intro x9; (try dsimp only); k_updF)); (case ne => assumption); (case d1 => walk_at "mine room"); (case d2 => walk_at "mine room"); (case m1 => omega); (case m2 => omega); k_whole); intro h' tk' r' tr' o' o0' F' N' D' r0' r1'; (try dsimp only at N'); (try k_sweep); (try k_fold)))
  k_with "call ref" => row_timed "fresh" ((k_here; (with_reducible show wpAny _ _ (call (Value.ref 207) [Value.ref _]) _ _ _); k_dflt (refine' known_call ?k1 ?k2 ?k3 ?k4 ?k5 ?kk ?D ?ne ?U ?U2 ?d1 ?d2 ?_; (case k1 => k_asm); (case k2 => k_asm); (case k3 => k_asm); (case k4 => k_asm); (case k5 => k_asm); (case kk => exact rfl); (case D => with_reducible assumption); (case U => k_updF); (case U2 => (intro x9; (try dsimp only); k_updF)); (case ne => assumption); (case d1 => walk_at "mine room"); (case d2 => walk_at "mine room"); k_whole); intro h' tk' xk fk ck t1' mv' mt' ys' fl' o' o0' F' N' D' of ox nfx hck hmk hsk hfk; (try simp only [LCg.Off1, and_true] at of ox); (try dsimp only at N'); (try k_sweep); (try k_fold)))
  k_with "call ref" => row_timed "fresh" ((k_here; (with_reducible show wpAny _ _ (call (Value.ref 214) [Value.ref _, Value.ref _]) _ _ _); k_dflt (refine' text_call ?k1 ?k2 ?k3 ?k4 ?k5 ?kk ?D ?ne ?U ?U2 ?mx ?mf ?n1 ?n2 ?n3 ?n4 ?n5 ?hc ?hm ?hs ?hf ?d1 ?d2 ?_; (case k1 => k_asm); (case k2 => k_asm); (case k3 => k_asm); (case k4 => k_asm); (case k5 => k_asm); (case kk => exact rfl); (case D => with_reducible assumption); (case U => k_updF); (case U2 => (intro x9; (try dsimp only); k_updF)); (case ne => assumption); (case mx => k_mem); (case mf => k_mem); (case n1 => k_ne); (case n2 => k_ne); (case n3 => k_ne); (case n4 => k_ne); (case n5 => k_ne); (case hc => assumption); (case hm => assumption); (case hs => assumption); (case hf => assumption); (case d1 => walk_at "mine room"); (case d2 => walk_at "mine room"); k_whole); intro h' tk' T' tT' o' o0' F' N' D' hdesc; (try dsimp only at N'); (try k_sweep); (try k_fold)))
  k_with "call ref" => row_timed "fresh" ((k_here; (with_reducible show wpAny _ _ (call (Value.ref 100) [Value.str _ _]) _ _ _); k_dflt (refine' read_call ?k1 ?k2 ?k3 ?k4 ?k5 ?kk ?d1 ?d2 ?hd ?hc ?hm ?hf ?_; (case k1 => k_asm); (case k2 => k_asm); (case k3 => k_asm); (case k4 => k_asm); (case k5 => k_asm); (case kk => exact rfl); (case hd => assumption); (case hc => assumption); (case hm => exact mt_cases (by assumption)); (case hf => assumption); (case d1 => walk_at "mine room"); (case d2 => walk_at "mine room"); k_whole); intro h' tk' xs ds ods mvs Ts F' N' hS hms hTs of ox nxd; (have hTe := tx_of hTs; subst hTe; clear hTs); (try simp only [LCg.Off1, and_true] at of ox); (try dsimp only at N'); (try k_sweep); (try k_fold)))
  k_with "call ref" => row_timed "fresh" ((k_here; (with_reducible show wpAny _ _ (call (Value.ref 221) [Value.ref _]) _ _ _); k_dflt (refine' items_call ?k1 ?k2 ?k3 ?k4 ?k5 ?kk ?mx ?md ?hS ?ne ?hm ?hf ?d1 ?d2 ?_; (case k1 => k_asm); (case k2 => k_asm); (case k3 => k_asm); (case k4 => k_asm); (case k5 => k_asm); (case kk => exact rfl); (case mx => k_mem); (case md => k_mem); (case hS => assumption); (case ne => assumption); (case hm => assumption); (case hf => exact fc_len (by assumption)); (case d1 => walk_at "mine room"); (case d2 => walk_at "mine room"); k_whole); intro h' tk' ti asi F' N' hR; (try dsimp only at N'); (try k_sweep); (try k_fold)))
  k_with "call ref" => row_timed "fresh" ((k_here; (with_reducible show wpAny _ _ (call (Value.ref 107) [Value.ref _]) _ _ _); k_dflt (refine' show_call ?k1 ?k2 ?k3 ?k4 ?k5 ?kk ?mx ?md ?hS ?ne ?hm ?hc ?hf ?d1 ?d2 ?_; (case k1 => k_asm); (case k2 => k_asm); (case k3 => k_asm); (case k4 => k_asm); (case k5 => k_asm); (case kk => exact rfl); (case mx => k_mem); (case md => k_mem); (case hS => assumption); (case ne => assumption); (case hm => assumption); (case hc => assumption); (case hf => assumption); (case d1 => walk_at "mine room"); (case d2 => walk_at "mine room"); k_whole); intro h' tk' T' tT' F' N' hdesc; (try dsimp only at N'); (try k_sweep); (try k_fold)))
  k_with "call ref" => row_timed "fresh" ((k_here; (with_reducible show wpAny _ _ (call (Value.ref 114) [Value.ref _, Value.ref _]) _ _ _); k_dflt (refine' same_call ?k1 ?k2 ?k3 ?k4 ?k5 ?kk ?mx ?md ?mx2 ?md2 ?hS ?hS2 ?n1 ?n2 ?n3 ?n4 ?n5 ?n6 ?hm ?hm2 ?d1 ?d2 ?_; (case k1 => k_asm); (case k2 => k_asm); (case k3 => k_asm); (case k4 => k_asm); (case k5 => k_asm); (case kk => exact rfl); (case mx => k_mem); (case md => k_mem); (case mx2 => k_mem); (case md2 => k_mem); (case hS => assumption); (case hS2 => assumption); (case n1 => k_ne); (case n2 => k_ne); (case n3 => k_ne); (case n4 => k_ne); (case n5 => k_ne); (case n6 => k_ne); (case hm => assumption); (case hm2 => assumption); (case d1 => walk_at "mine room"); (case d2 => walk_at "mine room"); k_whole); intro h' tk' F' N'; (try dsimp only at N'); (try k_sweep); (try k_fold)))
  k_with "call ref" => row_timed "fresh" ((k_here; (with_reducible show wpAny _ _ (call (Value.ref 62) [Value.ref _, Value.str _ _]) _ _ _); k_dflt (refine' has_call ?k1 ?k2 ?k3 ?k4 ?k5 ?kk ?mx ?md ?hS ?ne ?d1 ?d2 ?_; (case k1 => k_asm); (case k2 => k_asm); (case k3 => k_asm); (case k4 => k_asm); (case k5 => k_asm); (case kk => exact rfl); (case mx => k_mem); (case md => k_mem); (case hS => exact ⟨_, _, _, _, _, rfl⟩); (case ne => assumption); (case d1 => walk_at "mine room"); (case d2 => walk_at "mine room"); k_whole); intro h' tk' F' N'; (try dsimp only at N'); (try k_sweep); (try k_fold)))
  k_with "compareOp NotEq ref ref" => row_timed "fresh" ((k_here; k_dflt (refine' items_ne ?ra ?hx ?hf ?hc ?hm ?hs ?hff ?hu ?_; (case ra => assumption); (case hx => exact News.get (by k_asm) (by k_mem)); (case hf => exact News.get (by k_asm) (by k_mem)); (case hc => assumption); (case hm => assumption); (case hs => assumption); (case hff => assumption); (case hu => walk_at "mine room"))))
  k_with "compareOp NotEq ref ref" => row_timed "fresh" ((k_here; k_dflt (refine' bools_ne ?ha ?hb ?k1 ?k2 ?hu ?_; (case ha => exact News.get (by k_asm) (by k_mem)); (case hb => exact News.get (by k_asm) (by k_mem)); (case k1 => assumption); (case k2 => assumption); (case hu => walk_at "mine room"))))
  k_with "compareOp In str ref" => row_timed "fresh" ((k_here; (with_reducible show wpAny _ _ (compareOp CmpOp.In (Value.str _ _) (Value.ref _)) _ _ _); k_dflt (refine' in_sg ?ha ?hs ?_; (case ha => exact News.get (by k_asm) (by k_mem)); (case hs => assumption))))
  k_with "compareOp In str str" => row_timed "fresh" ((k_here; (with_reducible refine in_sign ?_)))
  k_with "exec Try" => row_timed "fresh" ((k_here; refine Stop.out ?_))
  k_with "call ref" => row_timed "fresh" ((k_here; (with_reducible show wpAny _ _ (call (Value.ref 100) [Value.str _ _]) _ _ _); (rename Cut 7 _ => hcut); refine Stop.out ?_))
  trivial
theorem below_ground {A : Around} {l : List Env} {h g : Heap} {D : List (Addr × Obj)} {P Q : Heap → Prop} (keep : ∀ b o, h.get? b = some o → b ∉ D.map (·.1) → g.get? b = some o) (H : ∃ base, Below A base l (hideAll h (D.map (·.1))) ∧ P base ∧ Q base) : ∃ base, Below A base l g ∧ P base ∧ Q base := by
  obtain ⟨base, B, x, y⟩ := H
  have k : ∀ b o, (hideAll h (D.map (·.1))).get? b = some o → g.get? b = some o := fun b o z => keep b o (of_hideAll _ z) fun m => by rw [hideAll_none _ m] at z; cases z
  exact ⟨base, ⟨B.stack, fun b o z => k b o (B.stays b o z), B.frames.of_keeps fun b o z _ => ⟨o, k b o z, rfl⟩⟩, x, y⟩
theorem right_end {h g hX h' base : Heap} {L dk d0 : Addr} {m : Str → Option Value} {o1 o2 o' o0' : Obj} {l : List Env} (keep : ∀ b o, h.get? b = some o → b ∉ ([(dk, o1), (d0, o2)] : List (Addr × Obj)).map (·.1) → g.get? b = some o) (F : Fr g L hX m) (N : News g L hX [(dk, o'), (d0, o0')]) (fr : g.FunFrames base l) (sz : h.objs.size < Nat.succ L)
    (k1 : ∀ b o, hX.get? b = some o → b ≠ L → b ∉ l.filterMap (·.frame) → h'.get? b = some o) (k2 : ∀ b o, hX.get? b = some o → b ≠ L → b ∈ l.filterMap (·.frame) → ∃ sl, h'.get? b = some { o with slots := sl }) :
    (∀ b o, h.get? b = some o → b ∉ [dk, d0] → b ∉ l.filterMap (·.frame) → h'.get? b = some o) ∧ (∀ b o, h.get? b = some o → b ∉ [dk, d0] → b ∈ l.filterMap (·.frame) → ∃ sl, h'.get? b = some { o with slots := sl }) ∧ h'.get? dk = some o' ∧ h'.get? d0 = some o0' := by
  have hL : ∀ b o, h.get? b = some o → b ≠ L := fun b o z q => by
    have := Heap.lt_size z
    rw [q] at this
    exact absurd (Nat.lt_of_lt_of_le this (Nat.le_of_lt_succ sz)) (Nat.lt_irrefl _)
  have nf : ∀ b, g.get? b = none → b ∉ l.filterMap (·.frame) := fun b z hm => by
    obtain ⟨_, o, q, _⟩ := fr.mem hm
    rw [z] at q; cases q
  have n1 := N _ (.head _)
  have n2 := N _ (.tail _ (.head _))
  exact ⟨fun b o z1 z2 z3 => k1 b o (F.keep b o (keep b o z1 (by simpa using z2))) (hL b o z1) z3, fun b o z1 z2 z3 => k2 b o (F.keep b o (keep b o z1 (by simpa using z2))) (hL b o z1) z3,
    k1 _ _ n1.1 n1.2.1 (nf _ n1.2.2), k1 _ _ n2.1 n2.2.1 (nf _ n2.2.2)⟩
structure Box (p : Prop) : Prop where
  out : p
abbrev sgOf {ys : List Value} {fl : List Nat} (_ : Sg ys fl) : List Nat := fl
set_option maxHeartbeats 4000000 in
theorem right_spec {prog : Program} {w : World} {p : Program} {loose : List Str} {mean : ExcName → Option Value} {mg mb : Str → Option Value} {dp un : Nat} {gd : Option (List Code)} {l : List Env} {s : Shared} {dk d0 : Addr} {o o0 : Obj} {Q E : Value → Shared → Prop}
    (H : Here (hd.heap_1 w.params) p loose mean mg mb (cx dp un gd l) l [dk, d0] s.heap) (hdk : s.heap.get? dk = some o) (hd0 : s.heap.get? d0 = some o0) (hD : Deck d0 o o0) (hne : dk ≠ d0) (hdp : dp + 200 < 1000) (hun : un + 1000 < 9900)
    (HB : ∃ base, Below (cx dp un gd l) base l (hideAll s.heap [dk, d0]) ∧ (hd.heap_1 w.params).In base ∧ Top p loose mean mg mb base)
    (ret : ∀ h' tk o' o0', (∀ b o, s.heap.get? b = some o → b ∉ [dk, d0] → b ∉ l.filterMap (·.frame) → h'.get? b = some o) → (∀ b o, s.heap.get? b = some o → b ∉ [dk, d0] → b ∈ l.filterMap (·.frame) → ∃ sl, h'.get? b = some { o with slots := sl }) → h'.get? dk = some o' → h'.get? d0 = some o0' → Deck d0 o' o0' → Q (.bool true) { s with heap := h', toks := tk }) :
    wpAny (model prog w) (cx dp un gd l) (call (.ref 226) [.ref dk]) Q E s := by
  refine wpAny_call ?_
  k_dflt (refine' enterC (K := hd.heap_1 w.params) (p := p) (loose := loose) (mean := mean) (mg := mg) (mb := mb) (l := l) (binds := [((PySem.Str.ofString "deck"), .ref dk)]) (D := [(dk, o), (d0, o0)]) ?H ?ND ?ho ?hcd ?hroom ?hbind ?hkind ?hnd ?_ ?c2 ?c3 ?c4; (case H => exact H); (case ho => k_is); (case hcd => k_is); (case hroom => (show dp < 1000; omega)); (case hbind => exact BindsTo.of_eq rfl); (case hkind => exact rfl); (case hnd => decide +kernel); (case c2 => exact rfl); (case c3 => exact rfl); (case c4 => exact rfl); k_whole)
  case ND => 
    intro q hq
    simp only [List.mem_cons, List.not_mem_nil, or_false] at hq
    rcases hq with rfl | rfl
    · exact hdk
    · exact hd0
  intro base g L' h₁ tk cells keep F' N' Y' B' X' T' lt' sz'
  replace sz' := Nat.lt_succ_of_le sz'
  k_lt lt'
  obtain ⟨oc, oc2, hE', dC1', dC2'⟩ := CellsAre.two Y'
  subst hE'
  clear Y'
  (try simp only [List.cons_append, List.nil_append] at N')
  (try dsimp only)
  try k_fold
  replace hne := neN hne
  have HB2 := Box.mk (below_ground keep HB)
  k_steps
  (rename Sg _ _ => hs1; rename List.Sublist _ _ => hf1)
  obtain ⟨fl, efl⟩ : ∃ fl, fl = sgOf hs1 := ⟨_, rfl⟩
  dsimp only [sgOf] at efl
  subst efl
  (rename SynD _ _ _ _ _ => hSS; clear hSS)
  (rename SynD _ _ _ _ _ => hSS; obtain ⟨_, _, _, _, _, eSS⟩ := hSS; subst eSS)
  refine ⟨_, _, _, rfl, by decide +kernel, rfl, by k_asm, by k_asm, by (rw [sizeLine_eq]; decide +kernel), fun s₂ hs₂ => turnsU (HJ fl _) ?turn ?fin _ 0 [] _ (Nat.zero_add _) ⟨rfl, .nil⟩⟩
  case turn =>
    obtain ⟨hh, rfl⟩ := hs₂
    rintro i ys news v I oI C oC D m₂ h tk E' hi ⟨rfl, hb⟩ ⟨c2, u2, hc2, rfl⟩ hC hx F N off ne
    clear ne
    k_steps
    exact ⟨rfl, has_snoc hb (flag_at hc2)⟩
  case fin =>
    obtain ⟨hh, rfl⟩ := hs₂
    rintro ys news ⟨rfl, hb⟩
    rw [flags_cps, show (FC.toArray).size = 8 from rfl] at hb
    k_steps
    refine ⟨_, _, _, rfl, by decide +kernel, rfl, by k_asm, by k_asm, by (rw [sizeLine_eq]; decide +kernel), fun s₂ hs₂ => turnsU (HJ fl _) ?turn2 ?fin2 _ 0 [] _ (Nat.zero_add _) ⟨rfl, .nil⟩⟩
    case turn2 =>
      obtain ⟨hh, rfl⟩ := hs₂
      rintro i ys news v I oI C oC D m₂ h tk E' hi ⟨rfl, hb⟩ ⟨c2, u2, hc2, rfl⟩ hC hx F N off ne
      clear ne
      k_steps
      exact ⟨rfl, has_snoc hb (flag_at hc2)⟩
    case fin2 =>
      obtain ⟨hh, rfl⟩ := hs₂
      rintro zs news ⟨rfl, hb2⟩
      rw [flags_cps, show (FC.toArray).size = 8 from rfl] at hb2
      k_steps
      unfold Stop
      have hneS : Box (@Ne Nat dk d0) := ⟨hne⟩
      (rename Fr _ _ _ _ => FF; rename News _ _ _ _ => NN; rename Deck _ _ _ => hDk)
      have N0S := Box.mk (News.one NN (q := (dk, _)) (by k_mem) (News.one NN (q := (d0, _)) (by k_mem) News.none))
      repeat (rename (@Ne _ _ _) => hz; clear hz)
      repeat (rename (And (@Ne _ _ _) _) => hz; clear hz)
      repeat (rename News _ _ _ _ => hz; clear hz)
      have FFS := Box.mk FF
      repeat (rename Fr _ _ _ _ => hz; clear hz)
      have hne := hneS.out
      have N0 := N0S.out
      have FF := FFS.out
      clear hneS N0S FFS
      refine wpAny_Try_except ?_
      have hcut := cut 7 fun _ => True
      k_steps
      all_goals (
        unfold Stop
        obtain ⟨base0, BB, Xb, Tb⟩ := HB2.out
        (rename Fr _ _ _ _ => FX; rename News _ _ _ _ => NX; rename Deck _ _ _ => hDX)
        refine caught BB FX X' T' Xb Tb (by unfold BadT; simp) rfl rfl rfl rfl rfl (by omega) (by omega) ?_
        intro h9 tk9 k1 k2
        (try dsimp only)
        obtain ⟨e1, e2, e3, e4⟩ := right_end keep FX (News.one NX (q := (dk, _)) (by k_mem) (News.one NX (q := (d0, _)) (by k_mem) News.none)) BB.frames sz' k1 k2
        exact ret _ _ _ _ e1 e2 e3 e4 hDX)
end Mine
end

/- Own -/
section
open PySem PySem.W PySem.Calls PyProof.Rows
theorem Mine.restOwn {prog : Program} {w : World} {A : Around} {env : Env} {Q : Flow → Shared → Prop} {E : Value → Shared → Prop} {s : Shared} (h : ∀ f s', Q f s') : wpAny (model prog w) A (execs [] env) Q E s := by
  k_with_none
  w_top off
  walk1
  exact h _ _
end
section
open PySem PySem.W PySem.Calls PyProof.Rows
namespace Mine
theorem ln148 : True := by
  k_with "mine room" => row_timed "fresh" (((try simp only [depth_under_make, depth_under_kw, depth_in1, depth_deeper, units_in1, units_deeper]); (try dsimp only [cx, ktrTop]); (try simp only [cLine]); omega))
  trivial
local macro_rules | `(tactic| k_room) => `(tactic| ((try simp only [depth_under_make, depth_under_kw, depth_in1, depth_deeper]); (try dsimp only [cx, ktrTop]); (try dsimp only [recursionLimit]); omega))
theorem ln149 : True := by
  k_with "getMethod ref" => row_timed "fresh" ((k_here; (with_reducible show wpAny _ _ (getMethod (Value.ref _) (Str.ofString "get") _) _ _ _); k_dflt (refine' kdg_method (knd := PySem.intKind _ _) ?N ?m ?d ?_; (case N => k_asm); (case m => k_mem); (case d => assumption))))
  k_with "call builtin:dict.get" => row_timed "fresh" ((k_here; k_dflt (refine' kdg_get2 (knd := PySem.intKind _ _) ?N ?m ?d ?lo ?k _ ?v ?_; (case N => k_asm); (case m => k_mem); (case d => assumption); (case lo => assumption); (case k => exact intKind_is _ _ _ _); (case v => assumption)); (try dsimp only [Option.getD])))
  k_with "sign is" => row_timed "fresh" (first | exact blank_is | exact dash_is | rfl | decide +kernel)
  k_with "compareOp Eq str str" => row_timed "fresh" ((k_here; first | with_reducible refine eq_nil_no ?_ | ((with_reducible refine' eq_sign_no ?sa ?sb ?_); (case sa => walk_at "sign is"); (case sb => omega)) | ((with_reducible refine' eq_sign_yes ?sa ?sb ?_); (case sa => walk_at "sign is"); (case sb => omega))))
  k_with "compareOp NotEq str str" => row_timed "fresh" ((k_here; first | ((with_reducible refine' ne_sign_no ?sa ?sb ?_); (case sa => walk_at "sign is"); (case sb => omega)) | ((with_reducible refine' ne_sign_yes ?sa ?sb ?_); (case sa => walk_at "sign is"); (case sb => omega))))
  k_with "compareOp In str str" => row_timed "fresh" ((k_here; first | ((with_reducible refine' in_known ?sa ?_); (case sa => walk_at "known sign")) | with_reducible refine in_sign ?_))
  k_with "compareOp NotIn str str" => row_timed "fresh" ((k_here; first | ((with_reducible refine' notIn_known ?sa ?_); (case sa => walk_at "known sign")) | with_reducible refine notIn_sign ?_))
  k_with "subscriptTail Name Constant str int" => row_timed "fresh" ((k_here; (with_reducible show wpAny _ _ (subscriptTail _ _ (Value.str _ _) (Value.int 0 _)) _ _ _); k_dflt (refine' at0 ?_ ?s ?t; (case s => with_unfolding_all rfl); (case t => kmk_pure)); intro t' k'))
  k_with "subscriptTail Name Constant str int" => row_timed "fresh" ((k_here; (with_reducible show wpAny _ _ (subscriptTail _ _ (Value.str _ _) (Value.int 1 _)) _ _ _); k_dflt (refine' at1 ?_ ?s ?t; (case s => with_unfolding_all rfl); (case t => kmk_pure)); intro t' k'))
  k_with "call builtin:len" => row_timed "fresh" ((k_here; (with_reducible show wpAny _ _ (call (Value.builtin "len") [Value.str _ _]) _ _ _); (with_reducible refine' len_tx ?sa ?_); (case sa => walk_at "few signs"); intro t' k'))
  k_with "few signs" => row_timed "fresh" (((try simp only [tx_len, List.length_cons, List.length_nil]); omega))
  k_with "call builtin:ord" => row_timed "fresh" ((k_here; (with_reducible refine ord_sg ?_); intro t' k'))
  k_with "compareOp Lt int int" => row_timed "fresh" ((k_here; first | ((with_reducible refine' lt_no ?sa ?_); (case sa => walk_at "lengths")) | ((with_reducible refine' lt_yes ?sa ?_); (case sa => walk_at "lengths"))))
  k_with "lengths" => row_timed "fresh" (((try simp only [List.length_cons, List.length_nil]); omega))
  k_with "subscriptTail Name Slice str ref" => row_timed "fresh" ((k_here; (with_reducible show wpAny _ _ (subscriptTail _ (PySem.Expr.Slice (some _) none none _) (Value.str _ _) (Value.ref _)) _ _ _); k_dflt (refine' tail2 ?F ?N ?e ?l ?_ ?s ?t; (case F => k_asm); (case N => k_asm); (case e => first | exact from2 | exact from2s); (case l => walk_at "few signs"); (case s => with_unfolding_all rfl); (case t => kmk_pure)); intro h' t' k' F' N'; (try dsimp only at N'); (try k_sweep)))
  k_with "known sign" => row_timed "fresh" (first | assumption | decide +kernel)
  trivial
theorem at_is : Str.ofString "@" = sg 64 := by decide +kernel
theorem ln165 : True := by
  k_with "sign is" => row_timed "fresh" (exact at_is)
  trivial
/-- the attributes of a table -/
def TabD (P : Params) (o : Obj) (pv : Value) (r : Addr) : Prop := ∃ t1 t2, o = dictOf [{ hash := PyData.keyHash P (Str.ofString "parent"), key := .str (Str.ofString "parent") t1, val := pv }, { hash := PyData.keyHash P (Str.ofString "rows"), key := .str (Str.ofString "rows") t2, val := .ref r }] 2
set_option maxHeartbeats 4000000 in
theorem own_none {prog : Program} {w : World} {p : Program} {loose : List Str} {mean : ExcName → Option Value} {mg mb : Str → Option Value} {dp un : Nat} {gd : Option (List Code)} {l : List Env} {s : Shared} {a e r : Addr} {oe orr : Obj} {pv : Value} {kvs : List (Int × Value)} {code : Int} {t : Tok} {Q E : Value → Shared → Prop}
    (H : Here (hd.heap_1 w.params) p loose mean mg mb (cx dp un gd l) l [a, e, r] s.heap) (ha : s.heap.get? a = some (instObj 181 e)) (he : s.heap.get? e = some oe) (hr : s.heap.get? r = some orr) (hT : TabD w.params oe pv r) (hd' : orr.IsDictOf (PySem.intKind prog w) kvs) (lo : (r == sysModules) = false) (n1 : a ≠ e) (n2 : a ≠ r) (n3 : e ≠ r) (hdp : dp + 100 < 1000) (hun : un + 500 < 9900)
    (hv : valueAt kvs code = none)
    (ret : ∀ h' tk, Keep [] s.heap h' → Q .none { s with heap := h', toks := tk }) :
    wpAny (model prog w) (cx dp un gd l) (call (.ref 157) [.ref a, .int code t]) Q E s := by
  obtain ⟨u1, u2, rfl⟩ := hT
  refine wpAny_call ?_
  k_dflt (refine' enter (K := hd.heap_1 w.params) (p := p) (loose := loose) (mean := mean) (mg := mg) (mb := mb) (l := l) (binds := [((PySem.Str.ofString "self"), .ref a), ((PySem.Str.ofString "code"), .int code t)]) (D := [(a, instObj 181 e), (e, _), (r, orr)]) ?H ?ND ?ho ?hcd ?hroom ?hbind ?hloc ?_ ?c2 ?c3 ?c4 ?c5; (case H => exact H); (case ho => k_is); (case hcd => k_is); (case hroom => (show dp < 1000; omega)); (case hbind => exact BindsTo.of_eq rfl); (case hloc => exact locs rfl); (case c2 => exact rfl); (case c3 => exact rfl); (case c4 => exact rfl); (case c5 => decide); k_whole)
  case ND => 
    intro q hq
    simp only [List.mem_cons, List.not_mem_nil, or_false] at hq
    rcases hq with rfl | rfl | rfl
    · exact ha
    · exact he
    · exact hr
  intro base g L' h₁ keep F' N' B' X' T' lt' sz'
  k_lt lt'
  (try dsimp only)
  try k_fold
  replace n1 := neN n1
  replace n2 := neN n2
  replace n3 := neN n3
  k_steps
  (rename Fr _ _ _ _ => FF; rename News _ _ _ _ => NN)
  exact ret _ _ (Keep.drop (Keep.drop (Keep.drop (fun b o e n => FF.keep b o (keep b o e n)) ha (NN.get (by k_mem))) he (NN.get (by k_mem))) hr (NN.get (by k_mem)))
set_option maxHeartbeats 4000000 in
theorem own_hit {prog : Program} {w : World} {p : Program} {loose : List Str} {mean : ExcName → Option Value} {mg mb : Str → Option Value} {dp un : Nat} {gd : Option (List Code)} {l : List Env} {s : Shared} {a e r x d : Addr} {oe orr od : Obj} {pv mv : Value} {kvs : List (Int × Value)} {code : Int} {t : Tok} {c : Nat} {f : Str} {Q E : Value → Shared → Prop}
    (H : Here (hd.heap_1 w.params) p loose mean mg mb (cx dp un gd l) l [a, e, r, x, d] s.heap) (ha : s.heap.get? a = some (instObj 181 e)) (he : s.heap.get? e = some oe) (hr : s.heap.get? r = some orr) (hx : s.heap.get? x = some (instObj 86 d)) (hdd : s.heap.get? d = some od) (hT : TabD w.params oe pv r) (hd' : orr.IsDictOf (PySem.intKind prog w) kvs) (lo : (r == sysModules) = false) (hS : SynD w.params od (sg c) mv f)
    (n1 : a ≠ e) (n2 : a ≠ r) (n3 : e ≠ r) (n4 : x ≠ a) (n5 : x ≠ e) (n6 : x ≠ r) (n7 : x ≠ d) (n8 : d ≠ a) (n9 : d ≠ e) (n10 : d ≠ r) (hdp : dp + 100 < 1000) (hun : un + 500 < 9900)
    (hv : valueAt kvs code = some (.ref x))
    (ret : ∀ h' tk, Keep [] s.heap h' → Q (if c = 64 then .none else .ref x) { s with heap := h', toks := tk }) :
    wpAny (model prog w) (cx dp un gd l) (call (.ref 157) [.ref a, .int code t]) Q E s := by
  obtain ⟨u1, u2, rfl⟩ := hT
  obtain ⟨v1, v2, v3, v4, v5, rfl⟩ := hS
  refine wpAny_call ?_
  k_dflt (refine' enter (K := hd.heap_1 w.params) (p := p) (loose := loose) (mean := mean) (mg := mg) (mb := mb) (l := l) (binds := [((PySem.Str.ofString "self"), .ref a), ((PySem.Str.ofString "code"), .int code t)]) (D := [(a, instObj 181 e), (e, _), (r, orr), (x, instObj 86 d), (d, _)]) ?H ?ND ?ho ?hcd ?hroom ?hbind ?hloc ?_ ?c2 ?c3 ?c4 ?c5; (case H => exact H); (case ho => k_is); (case hcd => k_is); (case hroom => (show dp < 1000; omega)); (case hbind => exact BindsTo.of_eq rfl); (case hloc => exact locs rfl); (case c2 => exact rfl); (case c3 => exact rfl); (case c4 => exact rfl); (case c5 => decide); k_whole)
  case ND => 
    intro q hq
    simp only [List.mem_cons, List.not_mem_nil, or_false] at hq
    rcases hq with rfl | rfl | rfl | rfl | rfl
    · exact ha
    · exact he
    · exact hr
    · exact hx
    · exact hdd
  intro base g L' h₁ keep F' N' B' X' T' lt' sz'
  k_lt lt'
  (try dsimp only)
  try k_fold
  replace n1 := neN n1
  replace n2 := neN n2
  replace n3 := neN n3
  by_cases h64 : c = 64
  · rw [if_pos h64] at ret
    k_steps
    (rename Fr _ _ _ _ => FF; rename News _ _ _ _ => NN)
    exact ret _ _ (Keep.drop (Keep.drop (Keep.drop (Keep.drop (Keep.drop (fun b o e n => FF.keep b o (keep b o e n)) ha (NN.get (by k_mem))) he (NN.get (by k_mem))) hr (NN.get (by k_mem))) hx (NN.get (by k_mem))) hdd (NN.get (by k_mem)))
  · rw [if_neg h64] at ret
    k_steps
    (rename Fr _ _ _ _ => FF; rename News _ _ _ _ => NN)
    exact ret _ _ (Keep.drop (Keep.drop (Keep.drop (Keep.drop (Keep.drop (fun b o e n => FF.keep b o (keep b o e n)) ha (NN.get (by k_mem))) he (NN.get (by k_mem))) hr (NN.get (by k_mem))) hx (NN.get (by k_mem))) hdd (NN.get (by k_mem)))
end Mine
end

/- At -/
section
open PySem PySem.W PySem.Calls PyProof.Rows
theorem Mine.restAt {prog : Program} {w : World} {A : Around} {env : Env} {Q : Flow → Shared → Prop} {E : Value → Shared → Prop} {s : Shared} (h : ∀ f s', Q f s') : wpAny (model prog w) A (execs [] env) Q E s := by
  k_with_none
  w_top off
  walk1
  exact h _ _
end
section
open PySem PySem.W PySem.Calls PyProof.Rows
namespace Mine
theorem ln166 : True := by
  k_with "mine room" => row_timed "fresh" (((try simp only [depth_under_make, depth_under_kw, depth_in1, depth_deeper, units_in1, units_deeper]); (try dsimp only [cx, ktrTop]); (try simp only [cLine]); omega))
  trivial
local macro_rules | `(tactic| k_room) => `(tactic| ((try simp only [depth_under_make, depth_under_kw, depth_in1, depth_deeper]); (try dsimp only [cx, ktrTop]); (try dsimp only [recursionLimit]); omega))

/-- what a table itself tells of a character -/
inductive Tab1 (prog : Program) (w : World) (D : List (Addr × Obj)) (code : Int) (a e : Addr) (pv : Value) : Option Addr → Prop
  | none {r : Addr} {oe orr : Obj} {kvs : List (Int × Value)} : (a, instObj 181 e) ∈ D → (e, oe) ∈ D → (r, orr) ∈ D → TabD w.params oe pv r → orr.IsDictOf (PySem.intKind prog w) kvs → (r == sysModules) = false → e ≠ r → valueAt kvs code = .none → Tab1 prog w D code a e pv Option.none
  | at {r x d : Addr} {oe orr od : Obj} {kvs : List (Int × Value)} {mv : Value} {f : Str} : (a, instObj 181 e) ∈ D → (e, oe) ∈ D → (r, orr) ∈ D → (x, instObj 86 d) ∈ D → (d, od) ∈ D → TabD w.params oe pv r → orr.IsDictOf (PySem.intKind prog w) kvs → (r == sysModules) = false → e ≠ r → d ≠ r → valueAt kvs code = some (.ref x) → SynD w.params od (sg 64) mv f → Tab1 prog w D code a e pv Option.none
  | hit {r x d : Addr} {oe orr od : Obj} {kvs : List (Int × Value)} {mv : Value} {f : Str} {c : Nat} : (a, instObj 181 e) ∈ D → (e, oe) ∈ D → (r, orr) ∈ D → (x, instObj 86 d) ∈ D → (d, od) ∈ D → TabD w.params oe pv r → orr.IsDictOf (PySem.intKind prog w) kvs → (r == sysModules) = false → e ≠ r → d ≠ r → valueAt kvs code = some (.ref x) → SynD w.params od (sg c) mv f → c ≠ 64 → Tab1 prog w D code a e pv (some x)
theorem ne_of_data {h : Heap} {a b : Addr} {o1 o2 : Obj} (h1 : h.get? a = some o1) (h2 : h.get? b = some o2) (hne : o1.data ≠ o2.data) : a ≠ b := fun q => by
  subst q; rw [h1] at h2; cases h2; exact hne rfl
theorem isDict_data {prog : Program} {w : World} {o : Obj} {kvs : List (Int × Value)} (h : o.IsDictOf (PySem.intKind prog w) kvs) : ∃ es n, o.data = .dict es n := by
  obtain ⟨es, ep, _, hd', _⟩ := h
  exact ⟨es, ep, hd'⟩
theorem inst_ne_dict {h : Heap} {a b C e : Addr} {o : Obj} (h1 : h.get? a = some (instObj C e)) (h2 : h.get? b = some o) (hd' : ∃ es n, o.data = .dict es n) : a ≠ b := ne_of_data h1 h2 fun q => by
  obtain ⟨es, n, z⟩ := hd'
  rw [z] at q; cases q
theorem inst_ne {h : Heap} {a b e d : Addr} (h1 : h.get? a = some (instObj 181 e)) (h2 : h.get? b = some (instObj 86 d)) : b ≠ a := fun q => by
  subst q; rw [h1] at h2
  injection h2 with h2
  injection h2 with h2
  injection h2 with h2
  exact absurd h2 (by decide)
theorem syn_ne_tab {P : Params} {h : Heap} {e d r : Addr} {o1 o2 : Obj} {k f : Str} {mv pv : Value} (h1 : h.get? d = some o1) (h2 : h.get? e = some o2) (hS : SynD P o1 k mv f) (hT : TabD P o2 pv r) : d ≠ e := ne_of_data h1 h2 fun q => by
  obtain ⟨_, _, _, _, _, rfl⟩ := hS
  obtain ⟨_, _, rfl⟩ := hT
  injection q with q
  have := congrArg Array.size q
  simp at this
theorem tab_data {P : Params} {o : Obj} {pv : Value} {r : Addr} (hT : TabD P o pv r) : ∃ es n, o.data = .dict es n := by
  obtain ⟨_, _, rfl⟩ := hT
  exact ⟨_, _, rfl⟩
theorem syn_data {P : Params} {o : Obj} {k f : Str} {mv : Value} (hS : SynD P o k mv f) : ∃ es n, o.data = .dict es n := by
  obtain ⟨_, _, _, _, _, rfl⟩ := hS
  exact ⟨_, _, rfl⟩
section
variable {prog : Program} {w : World} {p : Program} {loose : List Str} {mean : ExcName → Option Value} {mg mb : Str → Option Value} {dp un : Nat} {gd : Option (List Code)} {s : Shared} {cn : Str} {cs : Scope} {L a0 : Addr} {ccd : Value} {cl : List (Str × Addr)} {outer : List Env} {A₀ : Around} {base h₀ : Heap} {m : Str → Option Value} {news : List (Addr × Obj)}
theorem own_call {a e : Addr} {pv : Value} {D : List (Addr × Obj)} {code : Int} {t : Tok} {res : Option Addr} {Q E : Value → Shared → Prop}
    (B : Below A₀ base outer h₀) (F : Fr h₀ L s.heap m) (X : (hd.heap_1 w.params).In h₀) (N : News h₀ L s.heap news) (TP : Top p loose mean mg mb h₀) (hk : cs.kind = .function) (ND : News h₀ L s.heap D) (T1 : Tab1 prog w D code a e pv res) (hdp : dp + 100 < 1000) (hun : un + 500 < 9900)
    (ret : ∀ h' tk, Fr h₀ L h' m → News h₀ L h' news → News h₀ L h' D → Q (res.elim .none .ref) { s with heap := h', toks := tk }) :
    wpAny (model prog w) (ktrTop dp un gd cn cs L a0 ccd cl outer) (call (.ref 157) [.ref a, .int code t]) Q E s := by
  have all : ∀ h' tk, Keep [] s.heap h' → Q (res.elim .none .ref) { s with heap := h', toks := tk } := fun h' tk k => ret h' tk (back0 F N k).1 (back0 F N k).2 (back0 F ND k).2
  cases T1 with
  | none m1 m2 m3 hT hd' lo n3 hv =>
    have g1 := (ND _ m1).1
    have g2 := (ND _ m2).1
    have g3 := (ND _ m3).1
    exact own_none (H := Here.of (D := [(a, instObj 181 e), (e, _), (_, _)]) (A := ktrTop dp un gd cn cs L a0 ccd cl outer) B F X (News.one ND m1 (News.one ND m2 (News.one ND m3 News.none))) TP rfl rfl hk) g1 g2 g3 hT hd' lo (inst_ne_dict g1 g2 (tab_data hT)) (inst_ne_dict g1 g3 (isDict_data hd')) n3 hdp hun hv all
  | «at» m1 m2 m3 m4 m5 hT hd' lo n3 n10 hv hS =>
    have g1 := (ND _ m1).1
    have g2 := (ND _ m2).1
    have g3 := (ND _ m3).1
    have g4 := (ND _ m4).1
    have g5 := (ND _ m5).1
    exact own_hit (H := Here.of (D := [(a, instObj 181 e), (e, _), (_, _), (_, instObj 86 _), (_, _)]) (A := ktrTop dp un gd cn cs L a0 ccd cl outer) B F X (News.one ND m1 (News.one ND m2 (News.one ND m3 (News.one ND m4 (News.one ND m5 News.none))))) TP rfl rfl hk) g1 g2 g3 g4 g5 hT hd' lo hS (inst_ne_dict g1 g2 (tab_data hT)) (inst_ne_dict g1 g3 (isDict_data hd')) n3
      (inst_ne g1 g4) (inst_ne_dict g4 g2 (tab_data hT)) (inst_ne_dict g4 g3 (isDict_data hd')) (inst_ne_dict g4 g5 (syn_data hS)) (Ne.symm (inst_ne_dict g1 g5 (syn_data hS))) (syn_ne_tab g5 g2 hS hT) n10 hdp hun hv (fun h' tk k => by rw [if_pos rfl]; exact all h' tk k)
  | hit m1 m2 m3 m4 m5 hT hd' lo n3 n10 hv hS h64 =>
    have g1 := (ND _ m1).1
    have g2 := (ND _ m2).1
    have g3 := (ND _ m3).1
    have g4 := (ND _ m4).1
    have g5 := (ND _ m5).1
    exact own_hit (H := Here.of (D := [(a, instObj 181 e), (e, _), (_, _), (_, instObj 86 _), (_, _)]) (A := ktrTop dp un gd cn cs L a0 ccd cl outer) B F X (News.one ND m1 (News.one ND m2 (News.one ND m3 (News.one ND m4 (News.one ND m5 News.none))))) TP rfl rfl hk) g1 g2 g3 g4 g5 hT hd' lo hS (inst_ne_dict g1 g2 (tab_data hT)) (inst_ne_dict g1 g3 (isDict_data hd')) n3
      (inst_ne g1 g4) (inst_ne_dict g4 g2 (tab_data hT)) (inst_ne_dict g4 g3 (isDict_data hd')) (inst_ne_dict g4 g5 (syn_data hS)) (Ne.symm (inst_ne_dict g1 g5 (syn_data hS))) (syn_ne_tab g5 g2 hS hT) n10 hdp hun hv (fun h' tk k => by rw [if_neg h64]; exact all h' tk k)
end
end Mine
end

/- At2 -/
section
open PySem PySem.W PySem.Calls PyProof.Rows
theorem Mine.restAt2 {prog : Program} {w : World} {A : Around} {env : Env} {Q : Flow → Shared → Prop} {E : Value → Shared → Prop} {s : Shared} (h : ∀ f s', Q f s') : wpAny (model prog w) A (execs [] env) Q E s := by
  k_with_none
  w_top off
  walk1
  exact h _ _
end
section
open PySem PySem.W PySem.Calls PyProof.Rows
namespace Mine
theorem ln167 : True := by
  k_with "mine room" => row_timed "fresh" (((try simp only [depth_under_make, depth_under_kw, depth_in1, depth_deeper, units_in1, units_deeper]); (try dsimp only [cx, ktrTop]); (try simp only [cLine]); omega))
  trivial
local macro_rules | `(tactic| k_room) => `(tactic| ((try simp only [depth_under_make, depth_under_kw, depth_in1, depth_deeper]); (try dsimp only [cx, ktrTop]); (try dsimp only [recursionLimit]); omega))
theorem ln168 : True := by
  k_with "call ref" => row_timed "fresh" ((k_here; (with_reducible show wpAny _ _ (call (Value.ref 157) [Value.ref _, Value.int _ _]) _ _ _); k_dflt (refine' own_call ?k1 ?k2 ?k3 ?k4 ?k5 ?kk ?ND ?T1 ?d1 ?d2 ?_; (case k1 => k_asm); (case k2 => k_asm); (case k3 => k_asm); (case k4 => k_asm); (case k5 => k_asm); (case kk => exact rfl); (case ND => exact Box.out (by assumption)); (case T1 => assumption); (case d1 => walk_at "mine room"); (case d2 => walk_at "mine room"); k_whole); intro h' tk' F' N' ND'; (try dsimp only [Option.elim]); (try k_sweep); (try k_fold)))
  k_with "exec While" => row_timed "fresh" ((k_here; refine Stop.out ?_))
  trivial
/-- the tables from one up to its last parent -/
inductive Chain (prog : Program) (w : World) (D : List (Addr × Obj)) (code : Int) : Nat → Value → Option Addr → Prop
  | root : Chain prog w D code 0 .none none
  | skip {n : Nat} {a e r : Addr} {oe : Obj} {pv : Value} {res : Option Addr} : Tab1 prog w D code a e pv none → (a, instObj 181 e) ∈ D → (e, oe) ∈ D → TabD w.params oe pv r → Chain prog w D code n pv res → Chain prog w D code (n + 1) (.ref a) res
  | hit {n : Nat} {a e r x : Addr} {oe : Obj} {pv : Value} : Tab1 prog w D code a e pv (some x) → (a, instObj 181 e) ∈ D → (e, oe) ∈ D → TabD w.params oe pv r → Chain prog w D code (n + 1) (.ref a) (some x)
theorem two_names {A B : Str} {a b c d : Option Value} {m : Str → Option Value} : (fun y => if y = A then a else if y = B then b else if y = A then c else if y = B then d else m y) = fun y => if y = A then a else if y = B then b else m y := by
  funext y
  by_cases h1 : y = A
  · simp only [if_pos h1]
  · by_cases h2 : y = B
    · simp only [if_neg h1, if_pos h2]
    · simp only [if_neg h1, if_neg h2]
theorem found0 {A B C D : Str} {a c d : Value} (h1 : B ≠ A := by decide +kernel) (h2 : B ≠ C := by decide +kernel) (h3 : B ≠ D := by decide +kernel) : ∀ y, (if y = A then some a else List.lookup y [(C, c), (D, d)].reverse) = if y = A then some a else if y = B then none else List.lookup y [(C, c), (D, d)].reverse := by
  intro y
  by_cases e1 : y = A
  · simp only [if_pos e1]
  · simp only [if_neg e1]
    by_cases e2 : y = B
    · subst e2
      rw [if_pos rfl]
      have n1 : (y == D) = false := beq_eq_false_iff_ne.mpr h3
      have n2 : (y == C) = false := beq_eq_false_iff_ne.mpr h2
      simp only [List.reverse_cons, List.reverse_nil, List.nil_append, List.singleton_append, List.lookup, n1, n2]
    · rw [if_neg e2]
theorem keepD {D : List (Addr × Obj)} {h g h' : Heap} {L : Addr} {m : Str → Option Value} (ND : ∀ q ∈ D, h.get? q.1 = some q.2) (keep : ∀ b o, h.get? b = some o → ¬b ∈ D.map (·.1) → g.get? b = some o) (F : Fr g L h' m) (N : News g L h' D) : Keep [] h h' := fun b o z _ => by
  by_cases hm : b ∈ D.map (·.1)
  · obtain ⟨q, hq, rfl⟩ := List.mem_map.mp hm
    have := ND q hq
    rw [z] at this; cases this
    exact (N q hq).1
  · exact F.keep b o (keep b o z hm)
theorem fresh_in {D : List (Addr × Obj)} {h g h' : Heap} {L a : Addr} {news : List (Addr × Obj)} {o : Obj} (keep : ∀ b o, h.get? b = some o → ¬b ∈ D.map (·.1) → g.get? b = some o) (N : News g L h' news) (m : (a, o) ∈ news) (hD : a ∉ D.map (·.1)) : h.get? a = none := fresh_of keep (News.new N m) hD
theorem word_is : Str.ofString "w" = sg 119 := by decide +kernel
theorem dot_is : Str.ofString "." = sg 46 := by decide +kernel
theorem not_in1 {D : List (Addr × Obj)} {d : Addr} (l1 : ∀ p ∈ D, p.1 < d) : d ∉ D.map (·.1) := fun hm => by
  obtain ⟨q, hq, e⟩ := List.mem_map.mp hm
  have := l1 q hq
  rw [e] at this
  exact absurd this (Nat.lt_irrefl _)
theorem not_in2 {D : List (Addr × Obj)} {d x : Addr} (l1 : ∀ p ∈ D, p.1 < d) (l2 : @LT.lt Nat _ d x) : x ∉ D.map (·.1) := fun hm => by
  obtain ⟨q, hq, e⟩ := List.mem_map.mp hm
  have := l1 q hq
  rw [e] at this
  exact absurd (Nat.lt_trans this l2) (Nat.lt_irrefl _)
def AtI (s : Shared) (prog : Program) (w : World) (g : Heap) (L : Addr) (D : List (Addr × Obj)) (code : Int) (t : Tok) (a : Addr) (res : Option Addr) (n : Nat) (s' : Shared) : Prop :=
  ∃ h' tk tv fo, s' = { s with heap := h', toks := tk } ∧ Fr g L h' (fun y => if y = Str.ofString "table" then some tv else if y = Str.ofString "found" then fo else List.lookup y [(Str.ofString "self", .ref a), (Str.ofString "code", .int code t)].reverse) ∧ News g L h' D ∧ Chain prog w D code n tv res
set_option maxHeartbeats 4000000 in
theorem at_spec {prog : Program} {w : World} {p : Program} {loose : List Str} {mean : ExcName → Option Value} {mg mb : Str → Option Value} {dp un : Nat} {gd : Option (List Code)} {l : List Env} {s : Shared} {a : Addr} {D : List (Addr × Obj)} {code : Int} {t : Tok} {res : Option Addr} {n : Nat} {Q E : Value → Shared → Prop}
    (H : Here (hd.heap_1 w.params) p loose mean mg mb (cx dp un gd l) l (D.map (·.1)) s.heap) (ND : ∀ q ∈ D, s.heap.get? q.1 = some q.2) (C : Chain prog w D code n (.ref a) res) (hdp : dp + 150 < 1000) (hun : un + 600 < 9900)
    (retS : ∀ h' tk x, res = some x → Keep [] s.heap h' → Q (.ref x) { s with heap := h', toks := tk })
    (retN : ∀ h' tk x d od, res = none → Keep [] s.heap h' → h'.get? x = some (instObj 86 d) → h'.get? d = some od → SynD w.params od (sg (if 127 < code then 119 else 46)) .none (tx []) → s.heap.get? x = none → s.heap.get? d = none → x ≠ d → Q (.ref x) { s with heap := h', toks := tk }) :
    wpAny (model prog w) (cx dp un gd l) (call (.ref 164) [.ref a, .int code t]) Q E s := by
  refine wpAny_call ?_
  k_dflt (refine' enter (K := hd.heap_1 w.params) (p := p) (loose := loose) (mean := mean) (mg := mg) (mb := mb) (l := l) (binds := [((PySem.Str.ofString "self"), .ref a), ((PySem.Str.ofString "code"), .int code t)]) (D := D) ?H ?ND ?ho ?hcd ?hroom ?hbind ?hloc ?_ ?c2 ?c3 ?c4 ?c5; (case H => exact H); (case ho => k_is); (case hcd => k_is); (case hroom => (show dp < 1000; omega)); (case hbind => exact BindsTo.of_eq rfl); (case hloc => exact locs rfl); (case c2 => exact rfl); (case c3 => exact rfl); (case c4 => exact rfl); (case c5 => decide); k_whole)
  case ND => exact ND
  intro base g L' h₁ keep F' N' B' X' T' lt' sz'
  (try dsimp only)
  try k_fold
  k_steps
  unfold Stop
  (rename Fr _ _ _ _ => FF; rename News _ _ _ _ => NN)
  refine wpAny_While (codeAny_whileLoop (AtI s prog w g L' D code t a res) ?turn n ⟨_, _, .ref a, none, rfl, Fr.to FF found0, NN, C⟩)
  clear FF NN
  rintro n s' ⟨h2, tk2, tv, fo, rfl, F2, N2, C2⟩
  cases C2 with
  | root =>
    k_steps
    all_goals (rename Fr _ _ _ _ => FF; rename News _ _ _ _ => NN; rename (@LT.lt _ _ _ _) => l2; rename ∀ p ∈ D, p.1 < _ => l1)
    · exact retN _ _ _ _ _ rfl (keepD ND keep FF (fun q hq => NN q (.tail _ (.tail _ hq)))) (NN.get (by k_mem)) (NN.get (by k_mem)) (by rw [if_pos (by assumption)]; rw [word_is, nil_is]; exact ⟨_, _, _, _, _, rfl⟩) (fresh_in keep NN (by k_mem) (not_in2 l1 l2)) (fresh_in keep NN (by k_mem) (not_in1 l1)) (Nat.ne_of_gt l2)
    · exact retN _ _ _ _ _ rfl (keepD ND keep FF (fun q hq => NN q (.tail _ (.tail _ hq)))) (NN.get (by k_mem)) (NN.get (by k_mem)) (by rw [if_neg (by assumption)]; rw [dot_is, nil_is]; exact ⟨_, _, _, _, _, rfl⟩) (fresh_in keep NN (by k_mem) (not_in2 l1 l2)) (fresh_in keep NN (by k_mem) (not_in1 l1)) (Nat.ne_of_gt l2)
  | skip T1 m1 m2 hT C3 =>
    obtain ⟨t1, t2, rfl⟩ := hT
    have NB := Box.mk N2
    have N3 := News.one N2 m1 (News.one N2 m2 News.none)
    clear N2
    cases C3 with
    | root =>
      k_steps
      rotate_left
      rotate_left
      exact 0
      · omega
      · (rename Fr _ _ _ _ => FF; rename News _ _ _ _ => NN; rw [two_names] at FF; exact ⟨_, _, _, _, rfl, FF, NN, .root⟩)
    | @skip n2 a2 e2 r2 oe2 pv2 res2 T4 m4 m5 hT4 C4 =>
      k_steps
      rotate_left
      rotate_left
      exact n2 + 1
      · omega
      · (rename Fr _ _ _ _ => FF; rename News _ _ _ _ => NN; rw [two_names] at FF; exact ⟨_, _, _, _, rfl, FF, NN, .skip T4 m4 m5 hT4 C4⟩)
    | @hit n2 a2 e2 r2 x2 oe2 pv2 T4 m4 m5 hT4 =>
      k_steps
      rotate_left
      rotate_left
      exact n2 + 1
      · omega
      · (rename Fr _ _ _ _ => FF; rename News _ _ _ _ => NN; rw [two_names] at FF; exact ⟨_, _, _, _, rfl, FF, NN, .hit T4 m4 m5 hT4⟩)
  | hit T1 m1 m2 hT =>
    obtain ⟨t1, t2, rfl⟩ := hT
    have NB := Box.mk N2
    have N3 := News.one N2 m1 (News.one N2 m2 News.none)
    clear N2
    k_steps
    (rename Fr _ _ _ _ => FF; rename News _ _ _ _ => NN)
    exact retS _ _ _ rfl (keepD ND keep FF NN)
end Mine
end

/- Due -/
section
open PySem PySem.W PySem.Calls PyProof.Rows
theorem Mine.restDue {prog : Program} {w : World} {A : Around} {env : Env} {Q : Flow → Shared → Prop} {E : Value → Shared → Prop} {s : Shared} (h : ∀ f s', Q f s') : wpAny (model prog w) A (execs [] env) Q E s := by
  k_with_none
  w_top off
  walk1
  exact h _ _
end
section
open PySem PySem.W PySem.Calls PyProof.Rows
namespace Mine
theorem ln170 : True := by
  k_with "mine room" => row_timed "fresh" (((try simp only [depth_under_make, depth_under_kw, depth_in1, depth_deeper, units_in1, units_deeper]); (try dsimp only [cx, ktrTop]); (try simp only [cLine]); omega))
  trivial
local macro_rules | `(tactic| k_room) => `(tactic| ((try simp only [depth_under_make, depth_under_kw, depth_in1, depth_deeper]); (try dsimp only [cx, ktrTop]); (try dsimp only [recursionLimit]); omega))
theorem ln171 : True := by
  k_with "getMethod ref" => row_timed "fresh" ((k_here; (with_reducible show wpAny _ _ (getMethod (Value.ref _) (Str.ofString "get") _) _ _ _); k_dflt (refine' kdg_method (knd := PySem.intKind _ _) ?N ?m ?d ?_; (case N => k_asm); (case m => k_mem); (case d => assumption))))
  k_with "call builtin:dict.get" => row_timed "fresh" ((k_here; k_dflt (refine' kdg_get2 (knd := PySem.intKind _ _) ?N ?m ?d ?lo ?k _ ?v ?_; (case N => k_asm); (case m => k_mem); (case d => assumption); (case lo => assumption); (case k => exact intKind_is _ _ _ _); (case v => assumption)); (try dsimp only [Option.getD])))
  trivial

section
variable {prog : Program} {w : World} {A : Around} {E : Value → Shared → Prop} {s : Shared} {h₀ : Heap} {L l : Addr} {news : List (Addr × Obj)}
theorem at_list {value slice : PySem.Expr} {us : List Value} {n i : Nat} {u : Tok} {v : Value} {Q : Value → Shared → Prop} (N : News h₀ L s.heap news) (hm : (l, W.listOf us.toArray n) ∈ news) (hv : us[i]? = some v) (hi : i < 1000) (h : Q v s)
    (hs : subscripted slice false (.ref l) (.int (i : Int) u) = operate [.ref l, .int (i : Int) u] (getItem (.ref l) (.int (i : Int) u))) : wpAny (model prog w) A (subscriptTail value slice (.ref l) (.int (i : Int) u)) Q E s := by
  have hl : s.heap.IsList l us.toArray := ⟨_, (N _ hm).1, rfl, n, rfl⟩
  exact tail_any hl.typeIs slot_list_getitem.lookup (wpAny_getItem_list hl (by omega) (by omega) (by simpa using hv) h) hs
theorem ne_tup_str {x fa : Addr} {c : Nat} {t t2 : Tok} {mv : Value} {mt : Option Int} {ys : List Value} {fl : List Nat} {Q : Value → Shared → Prop} (N : News h₀ L s.heap news) (hx : (x, tupO (.str (sg c) t) mv (.ref fa)) ∈ news) (hfa : (fa, LCg.lst ys) ∈ news) (hc : c ∈ KC) (hm : MtIs mv mt) (hs : Sg ys fl) (hf : fl.Sublist FC)
    (hu : A.units + 64 < cLine) (h : Q (.bool true) s) : wpAny (model prog w) A (compareOp .NotEq (.ref x) (.str (Str.ofString "@") t2)) Q E s := by
  obtain ⟨bs, rb⟩ := known_reads (N _ hx).1 (N _ hfa).1 hm hs
  refine ne_dataH rb (.str _ _) (it_shaped (fl := fl) (kc_lt hc) (mt_cases hm) (fc_plain hf)) (by decide +kernel) hu ?_
  rw [show PyData.eqv (itD c mt fl) (.str (Str.ofString "@")) = false from by simp [itD, PyData.eqv]]
  exact h
end
theorem ln173 : True := by
  k_with "subscriptTail Name Name ref int" => row_timed "fresh" ((k_here; (with_reducible show wpAny _ _ (subscriptTail _ _ (Value.ref _) (Value.int _ _)) _ _ _); k_dflt (refine' at_list ?N ?m ?v ?i ?_ ?hs; (case N => k_asm); (case m => k_mem); (case v => with_reducible assumption); (case i => with_reducible assumption); (case hs => with_unfolding_all rfl))))
  k_with "subscriptTail" => row_timed "fresh" ((k_here; (with_reducible show wpAny _ _ (subscriptTail _ _ (Value.ref _) (Value.int _ _)) _ _ _); k_dflt (refine' at_list ?N ?m ?v ?i ?_ ?hs; (case N => k_asm); (case m => k_mem); (case v => with_reducible assumption); (case i => with_reducible assumption); (case hs => with_unfolding_all rfl))))
  k_with "compareOp NotEq ref str" => row_timed "fresh" ((k_here; k_dflt (refine' ne_tup_str ?N ?mx ?mf ?hc ?hm ?hs ?hf ?hu ?_; (case N => k_asm); (case mx => k_mem); (case mf => k_mem); (case hc => assumption); (case hm => assumption); (case hs => assumption); (case hf => assumption); (case hu => walk_at "mine room"))))
  k_with "exec While" => row_timed "fresh" ((k_here; refine Stop.out ?_))
  trivial
/-- the law's own rows from one up to its last parent -/
inductive DChain (prog : Program) (w : World) (D : List (Addr × Obj)) (krs ps : List Value) (code : Int) : Nat → Value → Option Addr → Prop
  | root : DChain prog w D krs ps code 0 .none none
  | none {n i : Nat} {t : Tok} {k : Addr} {ok : Obj} {kks : List (Int × Value)} {pv : Value} {res : Option Addr} : i < 1000 → krs[i]? = some (.ref k) → (k, ok) ∈ D → ok.IsDictOf (PySem.intKind prog w) kks → (k == sysModules) = false → valueAt kks code = .none → ps[i]? = some pv → DChain prog w D krs ps code n pv res → DChain prog w D krs ps code (n + 1) (.int (i : Int) t) res
  | at {n i : Nat} {t t2 : Tok} {k : Addr} {ok : Obj} {kks : List (Int × Value)} {pv : Value} {res : Option Addr} : i < 1000 → krs[i]? = some (.ref k) → (k, ok) ∈ D → ok.IsDictOf (PySem.intKind prog w) kks → (k == sysModules) = false → valueAt kks code = some (.str (Str.ofString "@") t2) → ps[i]? = some pv → DChain prog w D krs ps code n pv res → DChain prog w D krs ps code (n + 1) (.int (i : Int) t) res
  | hit {n i : Nat} {t t1 : Tok} {k x fa : Addr} {ok : Obj} {kks : List (Int × Value)} {c : Nat} {mv : Value} {mt : Option Int} {ys : List Value} {fl : List Nat} : i < 1000 → krs[i]? = some (.ref k) → (k, ok) ∈ D → ok.IsDictOf (PySem.intKind prog w) kks → (k == sysModules) = false → valueAt kks code = some (.ref x) → (x, tupO (.str (sg c) t1) mv (.ref fa)) ∈ D → (fa, LCg.lst ys) ∈ D → c ∈ KC → MtIs mv mt → Sg ys fl → fl.Sublist FC → DChain prog w D krs ps code (n + 1) (.int (i : Int) t) (some x)
theorem found_any {A B : Str} {a : Option Value} {m : Str → Option Value} (h : m B = none) : (fun y => if y = A then a else m y) = fun y => if y = A then a else if y = B then none else m y := by
  funext y
  by_cases e1 : y = A
  · simp only [if_pos e1]
  · simp only [if_neg e1]
    by_cases e2 : y = B
    · subst e2; rw [if_pos rfl, h]
    · rw [if_neg e2]
abbrev dueB (kr pp : Addr) (tv0 : Value) (code : Int) (t : Tok) : List (Str × Value) := [(Str.ofString "known_rows", .ref kr), (Str.ofString "parents", .ref pp), (Str.ofString "table", tv0), (Str.ofString "code", .int code t)]
theorem allLt_mem {d : Addr} : ∀ {D : List (Addr × Obj)}, AllLt d D → ∀ p ∈ D, p.1 < d
  | [], _, _, h => by cases h
  | q :: r, x, p, h => by
    rcases List.mem_cons.mp h with rfl | h
    · exact x.1
    · exact allLt_mem x.2 p h
def DueI (s : Shared) (prog : Program) (w : World) (g : Heap) (L : Addr) (D : List (Addr × Obj)) (krs ps : List Value) (code : Int) (B : List (Str × Value)) (res : Option Addr) (n : Nat) (s' : Shared) : Prop :=
  ∃ h' tk tv fo, s' = { s with heap := h', toks := tk } ∧ Fr g L h' (fun y => if y = Str.ofString "table" then some tv else if y = Str.ofString "found" then fo else List.lookup y B.reverse) ∧ News g L h' D ∧ DChain prog w D krs ps code n tv res
set_option maxHeartbeats 4000000 in
theorem due_spec {prog : Program} {w : World} {p : Program} {loose : List Str} {mean : ExcName → Option Value} {mg mb : Str → Option Value} {dp un : Nat} {gd : Option (List Code)} {l : List Env} {s : Shared} {kr pp : Addr} {D : List (Addr × Obj)} {krs ps : List Value} {nk np : Nat} {tv0 : Value} {code : Int} {t : Tok} {res : Option Addr} {n : Nat} {Q E : Value → Shared → Prop}
    (H : Here (hd.heap_1 w.params) p loose mean mg mb (cx dp un gd l) l (D.map (·.1)) s.heap) (ND : ∀ q ∈ D, s.heap.get? q.1 = some q.2) (mk : (kr, W.listOf krs.toArray nk) ∈ D) (mp : (pp, W.listOf ps.toArray np) ∈ D) (C : DChain prog w D krs ps code n tv0 res) (hdp : dp + 150 < 1000) (hun : un + 600 < 9900)
    (retS : ∀ h' tk x, res = some x → Keep [] s.heap h' → Q (.ref x) { s with heap := h', toks := tk })
    (retN : ∀ h' tk x fa t, res = none → Keep [] s.heap h' → h'.get? x = some (tupO (.str (sg (if 127 < code then 119 else 46)) t) .none (.ref fa)) → h'.get? fa = some (LCg.lst []) → s.heap.get? x = none → s.heap.get? fa = none → Q (.ref x) { s with heap := h', toks := tk }) :
    wpAny (model prog w) (cx dp un gd l) (call (.ref 233) [.ref kr, .ref pp, tv0, .int code t]) Q E s := by
  refine wpAny_call ?_
  k_dflt (refine' enter (K := hd.heap_1 w.params) (p := p) (loose := loose) (mean := mean) (mg := mg) (mb := mb) (l := l) (binds := [((PySem.Str.ofString "known_rows"), .ref kr), ((PySem.Str.ofString "parents"), .ref pp), ((PySem.Str.ofString "table"), tv0), ((PySem.Str.ofString "code"), .int code t)]) (D := D) ?H ?ND ?ho ?hcd ?hroom ?hbind ?hloc ?_ ?c2 ?c3 ?c4 ?c5; (case H => exact H); (case ho => k_is); (case hcd => k_is); (case hroom => (show dp < 1000; omega)); (case hbind => exact BindsTo.of_eq rfl); (case hloc => exact locs rfl); (case c2 => exact rfl); (case c3 => exact rfl); (case c4 => exact rfl); (case c5 => decide); k_whole)
  case ND => exact ND
  intro base g L' h₁ keep F' N' B' X' T' lt' sz'
  (try dsimp only)
  try k_fold
  k_steps
  unfold Stop
  (rename Fr _ _ _ _ => FF; rename News _ _ _ _ => NN)
  refine wpAny_While (codeAny_whileLoop (DueI s prog w g L' D krs ps code (dueB kr pp tv0 code t) res) ?turn n ⟨_, _, tv0, none, rfl, found_any (A := Str.ofString "table") (B := Str.ofString "found") (a := some tv0) (m := fun y => List.lookup y (dueB kr pp tv0 code t).reverse) rfl ▸ Fr.same FF rfl, NN, C⟩)
  clear FF NN
  rintro n s' ⟨h2, tk2, tv, fo, rfl, F2, N2, C2⟩
  cases C2 with
  | root =>
    k_steps
    all_goals (rename Fr _ _ _ _ => FF; rename News _ _ _ _ => NN; rename _ ∧ AllLt _ _ => l1; rename ∀ p ∈ D, p.1 < _ => l0; (try k_unfold); (try dsimp only))
    · rw [word_is] at NN
      exact retN _ _ _ _ _ rfl (keepD ND keep FF (fun q hq => NN q (.tail _ (.tail _ hq)))) (by rw [if_pos (by assumption)]; exact NN.get (.head _)) (NN.get (.tail _ (.head _))) (fresh_in keep NN (.head _) (not_in1 (allLt_mem l1.2))) (fresh_in keep NN (.tail _ (.head _)) (not_in1 l0))
    · rw [dot_is] at NN
      exact retN _ _ _ _ _ rfl (keepD ND keep FF (fun q hq => NN q (.tail _ (.tail _ hq)))) (by rw [if_neg (by assumption)]; exact NN.get (.head _)) (NN.get (.tail _ (.head _))) (fresh_in keep NN (.head _) (not_in1 (allLt_mem l1.2))) (fresh_in keep NN (.tail _ (.head _)) (not_in1 l0))
  | @none n2 i2 t2 k2 ok2 kks2 pv2 res2 hi hk mk1 hd1 lo hv hp C3 =>
    have N3 := News.one N2 mk (News.one N2 mp (News.one N2 mk1 N2))
    clear N2
    k_steps
    rotate_left
    rotate_left
    exact n2
    · omega
    · (rename Fr _ _ _ _ => FF; rename News _ _ _ _ => NN; rw [two_names] at FF; exact ⟨_, _, _, _, rfl, FF, (fun q hq => NN q (.tail _ (.tail _ (.tail _ hq)))), C3⟩)
  | @«at» n2 i2 t2 t3 k2 ok2 kks2 pv2 res2 hi hk mk1 hd1 lo hv hp C3 =>
    have N3 := News.one N2 mk (News.one N2 mp (News.one N2 mk1 N2))
    clear N2
    k_steps
    rotate_left
    rotate_left
    exact n2
    · omega
    · (rename Fr _ _ _ _ => FF; rename News _ _ _ _ => NN; rw [two_names] at FF; exact ⟨_, _, _, _, rfl, FF, (fun q hq => NN q (.tail _ (.tail _ (.tail _ hq)))), C3⟩)
  | hit hi hk mk1 hd1 lo hv mx mf hc hm hs hf =>
    have N3 := News.one N2 mk (News.one N2 mp (News.one N2 mk1 (News.one N2 mx (News.one N2 mf N2))))
    clear N2
    k_steps
    (rename Fr _ _ _ _ => FF; rename News _ _ _ _ => NN)
    (try k_unfold)
    (try dsimp only)
    exact retS _ _ _ rfl (keepD ND keep FF (fun q hq => NN q (.tail _ (.tail _ (.tail _ (.tail _ (.tail _ hq)))))))
end Mine
end

/- Loops -/
section
open PySem PySem.W PySem.Calls PyProof.Rows
theorem Mine.restLoops {prog : Program} {w : World} {A : Around} {env : Env} {Q : Flow → Shared → Prop} {E : Value → Shared → Prop} {s : Shared} (h : ∀ f s', Q f s') : wpAny (model prog w) A (execs [] env) Q E s := by
  k_with_none
  w_top off
  walk1
  exact h _ _
end
section
open PySem PySem.W PySem.Calls PyProof.Rows
namespace Mine
section
variable {prog : Program} {w : World} {A : Around} {E : Value → Shared → Prop} {s : Shared} {env : Env} {h₀ : Heap} {x : Str} {body : List Stmt} {Q : Flow → Shared → Prop}
/-- the end of a turn -/
def TurnEnd (h₀ : Heap) (L : Addr) (s₁ : Shared) (I : Addr) (it : Obj) (rest : (Str → Option Value) → List (Addr × Obj) → Prop) (Q : Flow → Shared → Prop) (f : Flow) (s₂ : Shared) : Prop :=
  match f with
  | .ret v => Q (.ret v) s₂
  | .brk => Q .next s₂
  | _ => ∃ h' tk m' news', s₂ = { s₁ with heap := h', toks := tk } ∧ Fr h₀ L h' m' ∧ News h₀ L h' ((I, it) :: news') ∧ (∀ p ∈ news', p.1 ≠ I) ∧ rest m' news'
abbrev itS (x left st : Int) : Obj := { cls := .type "range_iterator", data := .fields #[rawInt x, rawInt left, rawInt st] }
theorem iter_range {r : Addr} {a₀ b₀ st : Int} {t₀ u₀ v₀ : Tok} {n : Nat} {m₀ : Str → Option Value} {news : List (Addr × Obj)} (J : Nat → (Str → Option Value) → List (Addr × Obj) → Prop)
    (hh : A.handled = none) (hr : IsRange s.heap r a₀ b₀ st t₀ u₀ v₀) (hsmall : Builtin.Range.small a₀ b₀ st = true) (hn : Builtin.Range.rangeSize a₀ b₀ st = (n : Int)) (F : Fr h₀ env.locals s.heap m₀) (N : News h₀ env.locals s.heap news)
    (j0 : J 0 m₀ news)
    (turn : ∀ i m news t h tk I, i < n → J i m news → Fr h₀ env.locals h (fun y => if y = x then some (.int (a₀ + (i : Int) * st) t) else m y) → News h₀ env.locals h ((I, itS (a₀ + ((i + 1 : Nat) : Int) * st) ((n : Int) - ((i + 1 : Nat) : Int)) st) :: news) → (∀ p ∈ news, p.1 ≠ I) →
      wpAny (model prog w) A (execs body env) (TurnEnd h₀ env.locals { s with heap := h, toks := tk } I (itS (a₀ + ((i + 1 : Nat) : Int) * st) ((n : Int) - ((i + 1 : Nat) : Int)) st) (J (i + 1)) Q) E { s with heap := h, toks := tk })
    (fin : ∀ m news h tk, J n m news → Fr h₀ env.locals h m → News h₀ env.locals h news → Q .next { s with heap := h, toks := tk }) :
    wpAny (model prog w) A (pyIter (.ref r)) (fun it s₂ => LoopAtV prog w A h₀ env x body Q E it s₂) E s := by
  refine wpAny_pyIter_range hr hsmall ?_
  have W : Walks prog w A s.heap.objs.size [s.heap.objs.size] [s.heap.objs.size] n (fun i v => i < n ∧ ∃ t, v = .int (a₀ + i * st) t)
      (fun i h => IsRangeIter h s.heap.objs.size (a₀ + (i : Nat) * st) ((n : Int) - (i : Nat)) st) := (Walks.range hh _ a₀ st n).bound
  have hnew := next_is_new F
  refine ⟨_, _, _, n, _, _, m₀, news, J, rfl, W, ?_, ?_, ?_, (by show IsRangeIter _ _ _ _ _; rw [hn]; simpa using Heap.get?_push_size _ rfl), F.push _, (fun p hp => ⟨Heap.get?_push_of_some _ (N p hp).1, (N p hp).2⟩), j0, ?_, ?_⟩
  · intro hm
    exact absurd F.ns.lt ((List.mem_singleton.mp hm) ▸ Nat.lt_irrefl _)
  · intro b hb
    rw [List.mem_singleton.mp hb]
    exact hnew
  · intro p hp hI
    exact absurd (Heap.lt_size (N p hp).1) ((List.mem_singleton.mp hI) ▸ Nat.lt_irrefl _)
  · rintro i v m₁ news₁ s₁ own ⟨hh', tk', rfl⟩ hin ⟨_, t, rfl⟩ hJ hoff hown hget hall hst F₁ N₁
    have hst' : hh'.get? s.heap.objs.size = some (itS (a₀ + ((i + 1 : Nat) : Int) * st) ((n : Int) - ((i + 1 : Nat) : Int)) st) := hst
    have hmem := hall s.heap.objs.size (List.mem_singleton.mpr rfl) hnew _ hst'
    have N₂ : News h₀ env.locals hh' ((s.heap.objs.size, itS (a₀ + ((i + 1 : Nat) : Int) * st) ((n : Int) - ((i + 1 : Nat) : Int)) st) :: news₁) := fun p hp => by
      rcases List.mem_cons.mp hp with rfl | hp
      · exact N₁ _ (List.mem_append_left _ hmem)
      · exact N₁ _ (List.mem_append_right _ hp)
    refine wpAny_mono (turn i m₁ news₁ t hh' tk' s.heap.objs.size hin hJ F₁ N₂ (fun p hp e => hoff p hp (List.mem_singleton.mpr e))) (fun f s₂ p => ?_) fun _ _ e => e
    have go : (∃ h' tk m' news', s₂ = { ({ s with heap := hh', toks := tk' } : Shared) with heap := h', toks := tk } ∧ Fr h₀ env.locals h' m' ∧ News h₀ env.locals h' ((s.heap.objs.size, itS (a₀ + ((i + 1 : Nat) : Int) * st) ((n : Int) - ((i + 1 : Nat) : Int)) st) :: news') ∧ (∀ p ∈ news', p.1 ≠ s.heap.objs.size) ∧ J (i + 1) m' news') →
        LoopStepU h₀ env.locals [s.heap.objs.size] own (J (i + 1)) { s with heap := hh', toks := tk' } .next s₂ := by
      rintro ⟨h', tk, m', news', e, F', N', ho, r⟩
      refine ⟨rfl, h', tk, m', news', e, F', fun p hp => ?_, fun p hp hI => ho p hp (List.mem_singleton.mp hI), r⟩
      rcases List.mem_append.mp hp with hp | hp
      · have h1 : p.1 = s.heap.objs.size := List.mem_singleton.mp (hown p hp)
        have h2 : hh'.get? p.1 = some p.2 := hget p hp
        have h3 : p = (s.heap.objs.size, itS (a₀ + ((i + 1 : Nat) : Int) * st) ((n : Int) - ((i + 1 : Nat) : Int)) st) := by
          rw [h1, hst'] at h2
          exact Prod.ext h1 (Option.some.inj h2).symm
        rw [h3]; exact N' _ (List.mem_cons_self ..)
      · exact N' _ (List.mem_cons_of_mem _ hp)
    cases f with
    | ret v => exact .ret p
    | brk => exact .brk p
    | next => exact .next (go p)
    | cont => exact .cont (go p)
  · rintro h' tk m' news' F' N' _ hJ
    exact fin m' news' h' tk hJ F' N'
end
end Mine
end

/- Range -/
section
open PySem PySem.W PySem.Calls PyProof.Rows
theorem Mine.restRange {prog : Program} {w : World} {A : Around} {env : Env} {Q : Flow → Shared → Prop} {E : Value → Shared → Prop} {s : Shared} (h : ∀ f s', Q f s') : wpAny (model prog w) A (execs [] env) Q E s := by
  k_with_none
  w_top off
  walk1
  exact h _ _
end
section
open PySem PySem.W PySem.Calls PyProof.Rows
namespace Mine
theorem ln177 : True := by
  k_with "mine room" => row_timed "fresh" (((try simp only [depth_under_make, depth_under_kw, depth_in1, depth_deeper, units_in1, units_deeper]); (try dsimp only [cx, ktrTop]); (try simp only [cLine]); omega))
  trivial
local macro_rules | `(tactic| k_room) => `(tactic| ((try simp only [depth_under_make, depth_under_kw, depth_in1, depth_deeper]); (try dsimp only [cx, ktrTop]); (try dsimp only [recursionLimit]); omega))
theorem ln178 : True := by
  k_with "setItem ref int" => row_timed "fresh" ((k_here; k_dflt (refine' kda_set (knd := PySem.intKind _ _) ?F ?N ?U ?d (intKind_is _ _ _ _) ?z ?_; (case F => k_asm); (case N => k_asm); (case U => k_updF); (case d => assumption); (case z => walk_at "dict small")); intro h' o' F' N' hd'; (try dsimp only at N')))
  k_with "dict small" => row_timed "fresh" ((rw [sizeLine_eq]; omega))
  k_with "pyIter ref" => row_timed "fresh" ((refine Stop.out ?_))
  trivial
/-- one value stored at n keys in a row -/
def storeRun (kvs : List (Int × Value)) (a : Int) (v : Value) : Nat → List (Int × Value)
  | 0 => kvs
  | n + 1 => stored (storeRun kvs a v n) (a + (n : Int)) v
theorem stored_len {kvs : List (Int × Value)} {k : Int} {v : Value} : (stored kvs k v).length ≤ kvs.length + 1 := by
  unfold stored
  split <;> simp
theorem run_len {kvs : List (Int × Value)} {a : Int} {v : Value} : ∀ n, (storeRun kvs a v n).length ≤ kvs.length + n
  | 0 => Nat.le_refl _
  | n + 1 => Nat.le_trans stored_len (by have := run_len (kvs := kvs) (a := a) (v := v) n; omega)
theorem one_name {A : Str} {a b : Option Value} {m : Str → Option Value} : (fun y => if y = A then a else if y = A then b else m y) = fun y => if y = A then a else m y := by
  funext y
  by_cases h1 : y = A
  · simp only [if_pos h1]
  · simp only [if_neg h1]
theorem none_name {A : Str} {m : Str → Option Value} (h : m A = none) : m = fun y => if y = A then none else m y := by
  funext y
  by_cases h1 : y = A
  · rw [if_pos h1, h1, h]
  · rw [if_neg h1]
def RunJ (prog : Program) (w : World) (B : List (Str × Value)) (xn : Str) (pre : List (Addr × Obj)) (r : Addr) (kvs : List (Int × Value)) (c : Int) (v : Value) (i : Nat) (m : Str → Option Value) (news : List (Addr × Obj)) : Prop :=
  ∃ orr vo, m = (fun y => if y = xn then vo else List.lookup y B.reverse) ∧ news = pre ++ [(r, orr)] ∧ orr.IsDictOf (PySem.intKind prog w) (storeRun kvs c v i)
set_option maxHeartbeats 4000000 in
theorem range_spec {prog : Program} {w : World} {p : Program} {loose : List Str} {mean : ExcName → Option Value} {mg mb : Str → Option Value} {dp un : Nat} {gd : Option (List Code)} {l : List Env} {s : Shared} {a e r : Addr} {oe orr : Obj} {pv : Value} {kvs : List (Int × Value)} {c : Int} {n : Nat} {t1 t2 : Tok} {x : Addr} {Q E : Value → Shared → Prop}
    (H : Here (hd.heap_1 w.params) p loose mean mg mb (cx dp un gd l) l [a, e, r] s.heap) (ha : s.heap.get? a = some (instObj 181 e)) (he : s.heap.get? e = some oe) (hr : s.heap.get? r = some orr) (hT : TabD w.params oe pv r) (hd' : orr.IsDictOf (PySem.intKind prog w) kvs) (n1 : a ≠ e) (n2 : a ≠ r) (n3 : e ≠ r) (hc : 0 ≤ c ∧ c < 1000) (hn : n < 100) (hl : kvs.length < 10000) (hdp : dp + 100 < 1000) (hun : un + 500 < 9900)
    (ret : ∀ h' tk orr', Keep [r] s.heap h' → h'.get? r = some orr' → orr'.IsDictOf (PySem.intKind prog w) (storeRun kvs c (.ref x) (n + 1)) → Q .none { s with heap := h', toks := tk }) :
    wpAny (model prog w) (cx dp un gd l) (call (.ref 150) [.ref a, .int c t1, .int (c + (n : Int)) t2, .ref x]) Q E s := by
  obtain ⟨u1, u2, rfl⟩ := hT
  refine wpAny_call ?_
  k_dflt (refine' enter (K := hd.heap_1 w.params) (p := p) (loose := loose) (mean := mean) (mg := mg) (mb := mb) (l := l) (binds := [((PySem.Str.ofString "self"), .ref a), ((PySem.Str.ofString "first"), .int c t1), ((PySem.Str.ofString "last"), .int (c + (n : Int)) t2), ((PySem.Str.ofString "syntax"), .ref x)]) (D := [(a, instObj 181 e), (e, _), (r, orr)]) ?H ?ND ?ho ?hcd ?hroom ?hbind ?hloc ?_ ?c2 ?c3 ?c4 ?c5; (case H => exact H); (case ho => k_is); (case hcd => k_is); (case hroom => (show dp < 1000; omega)); (case hbind => exact BindsTo.of_eq rfl); (case hloc => exact locs rfl); (case c2 => exact rfl); (case c3 => exact rfl); (case c4 => exact rfl); (case c5 => decide); k_whole)
  case ND => 
    intro q hq
    simp only [List.mem_cons, List.not_mem_nil, or_false] at hq
    rcases hq with rfl | rfl | rfl
    · exact ha
    · exact he
    · exact hr
  intro base g L' h₁ keep F' N' B' X' T' lt' sz'
  k_lt lt'
  (try dsimp only)
  try k_fold
  replace n1 := neN n1
  replace n2 := neN n2
  replace n3 := neN n3
  k_steps
  unfold Stop
  (rename Fr _ _ _ _ => FF; rename News _ _ _ _ => NN; rename IsRange _ _ _ _ _ _ _ _ => hR)
  refine iter_range (RunJ prog w [(Str.ofString "self", .ref a), (Str.ofString "first", .int c t1), (Str.ofString "last", .int (c + (n : Int)) t2), (Str.ofString "syntax", .ref x)] (Str.ofString "code") [(a, instObj 181 e), (e, _)] r kvs c (.ref x)) (n := n + 1) rfl hR (small_one (by omega) (by omega) (by omega) (by omega)) (by rw [rangeSize_nat]; omega) FF NN ⟨_, none, none_name rfl, rfl, hd'⟩ ?turn ?fin
  case turn =>
    clear FF NN hR
    (rename Fr _ _ _ _ => FF; rename News _ _ _ _ => NN; clear FF NN)
    rintro i m news t h tk I hi ⟨or', vo, rfl, rfl, hdd⟩ F N off
    simp only [List.cons_append, List.nil_append] at N
    have hlen := run_len (kvs := kvs) (a := c) (v := .ref x) i
    rw [Int.mul_one] at F
    have i3 := neN (off (r, or') (by simp))
    have offS := Box.mk off
    clear off
    k_steps
    (rename Fr _ _ _ _ => FF; rename News _ _ _ _ => NN; rename Obj.IsDictOf _ _ _ => hdn)
    have off2 := offS.out
    refine ⟨_, _, _, _, rfl, FF, NN, ?_, _, _, one_name, rfl, hdn⟩
    intro p hp
    simp only [List.cons_append, List.nil_append, List.mem_cons, List.not_mem_nil, or_false] at hp
    rcases hp with rfl | rfl | rfl
    · exact off2 (a, instObj 181 e) (by simp)
    · exact off2 (e, _) (by simp)
    · exact off2 (r, or') (by simp)
  case fin =>
    clear FF NN hR
    (rename Fr _ _ _ _ => FF; rename News _ _ _ _ => NN; clear FF NN)
    rintro m news h tk ⟨or', vo, rfl, rfl, hdd⟩ F N
    simp only [List.cons_append, List.nil_append] at N
    (try dsimp only)
    k_steps
    (rename Fr _ _ _ _ => FF; rename News _ _ _ _ => NN)
    exact ret _ _ _ (Keep.drop (Keep.drop (fun b o e n => FF.keep b o (keep b o e n)) ha (NN.get (by k_mem))) he (NN.get (by k_mem))) (NN.get (by k_mem)) hdd
end Mine
end

/- Loops2 -/
section
open PySem PySem.W PySem.Calls PyProof.Rows
theorem Mine.restLoops2 {prog : Program} {w : World} {A : Around} {env : Env} {Q : Flow → Shared → Prop} {E : Value → Shared → Prop} {s : Shared} (h : ∀ f s', Q f s') : wpAny (model prog w) A (execs [] env) Q E s := by
  k_with_none
  w_top off
  walk1
  exact h _ _
end
section
open PySem PySem.W PySem.Calls PyProof.Rows
namespace Mine
section
variable {prog : Program} {w : World} {A : Around} {E : Value → Shared → Prop} {s : Shared} {h₀ : Heap} {L src : Addr} {m : Str → Option Value} {news : List (Addr × Obj)} {o : Obj} {kvs : List (Int × Value)}
theorem dict_of {Q : Value → Shared → Prop} (F : Fr h₀ L s.heap m) (N : News h₀ L s.heap news) (hbig : h₀.NoLimit) (hm : (src, o) ∈ news) (hd' : o.IsDictOf (PySem.intKind prog w) kvs) (lo : (src == sysModules) = false) (hsz : kvs.length ≤ sizeLine)
    (k : ∀ d h' o', Fr h₀ L h' m → News h₀ L h' ((d, o') :: news) → (∀ p ∈ news, p.1 < d) → (d == sysModules) = false → o'.IsDictOf (PySem.intKind prog w) kvs → Q (.ref d) { s with heap := h' }) :
    wpAny (model prog w) A (call (.type "dict") [.ref src]) Q E s := by
  refine kt_call_dict lo (kda_dict N hm hd') hsz fun h' hm hs => ?_
  obtain ⟨o', ho', hd2⟩ := Heap.dictOf_iff.mp hm
  have N1 := News.push F N { cls := .type "dict", data := .dict #[] }
  exact k _ h' o' ((F.push _).change hs (N1 _ (.head _)).2.1 (N1.fresh (.head _))) (N1.setHead N.apart hs ho') (fun p hp => Heap.lt_size (N p hp).1) (F.notModules (modules_low hbig)) hd2
end
section
variable {prog : Program} {w : World} {A : Around} {E : Value → Shared → Prop} {s : Shared} {env : Env} {h₀ : Heap} {x : Str} {body : List Stmt} {Q : Flow → Shared → Prop}
/-- the end of a turn over a dict's keys -/
def KeyEnd (h₀ : Heap) (L : Addr) (s₁ : Shared) (I : Addr) (own : List (Addr × Obj)) (rest : (Str → Option Value) → List (Addr × Obj) → Prop) (Q : Flow → Shared → Prop) (f : Flow) (s₂ : Shared) : Prop :=
  match f with
  | .ret v => Q (.ret v) s₂
  | .brk => Q .next s₂
  | _ => ∃ h' tk m' news', s₂ = { s₁ with heap := h', toks := tk } ∧ Fr h₀ L h' m' ∧ News h₀ L h' news' ∧ News h₀ L h' own ∧ (∀ p ∈ news', p.1 ≠ I) ∧ rest m' news'
theorem iter_keys {d : Addr} {kvs : List (Int × Value)} {od : Obj} {m₀ : Str → Option Value} {news : List (Addr × Obj)} (J : Nat → (Str → Option Value) → List (Addr × Obj) → Prop)
    (hh : A.handled = none) (lo : (d == sysModules) = false) (hm : (d, od) ∈ news) (hd' : od.IsDictOf (PySem.intKind prog w) kvs) (F : Fr h₀ env.locals s.heap m₀) (N : News h₀ env.locals s.heap news)
    (j0 : J 0 m₀ news)
    (turn : ∀ i m news t h tk I own k v, kvs[i]? = some (k, v) → J i m news → Fr h₀ env.locals h (fun y => if y = x then some (.int k t) else m y) → News h₀ env.locals h news → News h₀ env.locals h own → (∀ p ∈ own, p.1 = I ∨ p.1 = d) → (∀ p ∈ news, p.1 ≠ I) →
      wpAny (model prog w) A (execs body env) (KeyEnd h₀ env.locals { s with heap := h, toks := tk } I own (J (i + 1)) Q) E { s with heap := h, toks := tk })
    (fin : ∀ m news h tk, J kvs.length m news → Fr h₀ env.locals h m → News h₀ env.locals h news → Q .next { s with heap := h, toks := tk }) :
    wpAny (model prog w) A (pyIter (.ref d)) (fun it s₂ => LoopAtV prog w A h₀ env x body Q E it s₂) E s := by
  have hD := kda_dict (knd := PySem.intKind prog w) N hm hd'
  obtain ⟨ep, hA⟩ := hD.dictAt
  refine wpAny_pyIter_dict lo hA ?_
  have hne : d ≠ s.heap.objs.size := Nat.ne_of_lt hA.lt_size
  have W := Walks.dictKeys (prog := prog) (w := w) (knd := PySem.intKind prog w) hh s.heap.objs.size d hne kvs ep
  have hnew := next_is_new F
  refine ⟨_, _, _, _, _, _, m₀, news, J, rfl, W, ?_, ?_, ?_, ⟨⟨_, Heap.get?_push_size _ rfl, rfl, rfl⟩, hA.push _⟩, F.push _, (fun p hp => ⟨Heap.get?_push_of_some _ (N p hp).1, (N p hp).2⟩), j0, ?_, ?_⟩
  · intro hmm
    rcases List.mem_cons.mp hmm with e | hmm
    · exact absurd F.ns.lt (e ▸ Nat.lt_irrefl _)
    · exact (N _ hm).2.1 (List.mem_singleton.mp hmm).symm
  · intro b hb
    rw [List.mem_singleton.mp hb]
    exact hnew
  · intro p hp hI
    exact absurd (Heap.lt_size (N p hp).1) ((List.mem_singleton.mp hI) ▸ Nat.lt_irrefl _)
  · rintro i v m₁ news₁ s₁ own ⟨hh', tk', rfl⟩ hin ⟨k, y, hk, hkey⟩ hJ hoff hown hget hall hst F₁ N₁
    obtain ⟨t, rfl⟩ := Value.isInt_shape hkey
    refine wpAny_mono (turn i m₁ news₁ t hh' tk' s.heap.objs.size own k y hk hJ F₁ (fun p hp => N₁ p (List.mem_append_right _ hp)) (fun p hp => N₁ p (List.mem_append_left _ hp)) (fun p hp => by simpa using hown p hp) (fun p hp e => hoff p hp (List.mem_singleton.mpr e))) (fun f s₂ p => ?_) fun _ _ e => e
    have go : (∃ h' tk m' news', s₂ = { ({ s with heap := hh', toks := tk' } : Shared) with heap := h', toks := tk } ∧ Fr h₀ env.locals h' m' ∧ News h₀ env.locals h' news' ∧ News h₀ env.locals h' own ∧ (∀ p ∈ news', p.1 ≠ s.heap.objs.size) ∧ J (i + 1) m' news') →
        LoopStepU h₀ env.locals [s.heap.objs.size] own (J (i + 1)) { s with heap := hh', toks := tk' } .next s₂ := by
      rintro ⟨h', tk, m', news', e, F', N', NO, ho, r⟩
      refine ⟨rfl, h', tk, m', news', e, F', fun p hp => ?_, fun p hp hI => ho p hp (List.mem_singleton.mp hI), r⟩
      rcases List.mem_append.mp hp with hp | hp
      · exact NO p hp
      · exact N' p hp
    cases f with
    | ret v => exact .ret p
    | brk => exact .brk p
    | next => exact .next (go p)
    | cont => exact .cont (go p)
  · rintro h' tk m' news' F' N' _ hJ
    exact fin m' news' h' tk hJ F' N'
end
end Mine
end

/- Copy -/
section
open PySem PySem.W PySem.Calls PyProof.Rows
theorem Mine.restCopy {prog : Program} {w : World} {A : Around} {env : Env} {Q : Flow → Shared → Prop} {E : Value → Shared → Prop} {s : Shared} (h : ∀ f s', Q f s') : wpAny (model prog w) A (execs [] env) Q E s := by
  k_with_none
  w_top off
  walk1
  exact h _ _
end
section
open PySem PySem.W PySem.Calls PyProof.Rows
namespace Mine
theorem ln181 : True := by
  k_with "mine room" => row_timed "fresh" (((try simp only [depth_under_make, depth_under_kw, depth_in1, depth_deeper, units_in1, units_deeper]); (try dsimp only [cx, ktrTop]); (try simp only [cLine]); omega))
  trivial
local macro_rules | `(tactic| k_room) => `(tactic| ((try simp only [depth_under_make, depth_under_kw, depth_in1, depth_deeper]); (try dsimp only [cx, ktrTop]); (try dsimp only [recursionLimit]); omega))

theorem ln182 : True := by
  k_with "off3" => row_timed "fresh" ((simp only [List.map_cons, List.map_nil, List.mem_cons, List.not_mem_nil, or_false, not_or]; exact ⟨neN (by omega), neN (by omega), neN (by omega)⟩))
  k_with "pyIter ref" => row_timed "fresh" ((refine Stop.out ?_))
  trivial
section
variable {prog : Program} {w : World} {A : Around} {E : Value → Shared → Prop} {s : Shared} {h₀ : Heap} {L d : Addr} {m : Str → Option Value} {news own : List (Addr × Obj)} {g : Obj → List (Addr × Obj)} {o : Obj} {kvs : List (Int × Value)} {k : Int} {key v : Value}
theorem get_key {Q : Value → Shared → Prop} (N : News h₀ L s.heap news) (hp : (d, o) ∈ news) (hd' : o.IsDictOf (PySem.intKind prog w) kvs) (hkey : (PySem.intKind prog w).is k key = true) (hl : valueAt kvs k = some v) (h : Q v { s with toks := s.toks + 1 }) : wpAny (model prog w) A (getItem (.ref d) key) Q E s :=
  wpAny_getItem_of hkey (kda_dict N hp hd').mapOf hl h
theorem set_own {Q : Unit → Shared → Prop} (F : Fr h₀ L s.heap m) (N : News h₀ L s.heap news) (U : UpdF d o news g) (hd' : o.IsDictOf (PySem.intKind prog w) kvs) (hkey : (PySem.intKind prog w).is k key = true) (hsz : kvs.length ≤ sizeLine) (NO : News h₀ L s.heap own) (ho : ∀ p ∈ own, p.1 ≠ d)
    (h : ∀ h' o', Fr h₀ L h' m → News h₀ L h' (g o') → News h₀ L h' own → o'.IsDictOf (PySem.intKind prog w) (stored kvs k v) → Q () { s with heap := h', toks := s.toks + 1 }) : wpAny (model prog w) A (setItem (.ref d) key v) Q E s := by
  obtain ⟨pre, post, rfl, hg, a, b⟩ := U.split
  have hm := N (d, o) (List.mem_append_right _ (.head _))
  refine wpAny_setItem_pairs (hsz := hsz) hkey (Heap.dictOf_iff.mpr ⟨o, hm.1, hd'⟩) fun h' hmm hs => ?_
  obtain ⟨o', ho', hd2⟩ := Heap.dictOf_iff.mp hmm
  exact h h' o' (F.change hs hm.2.1 hm.2.2) (hg o' ▸ N.setIn a b hs ho') (fun p hp => ⟨(hs.2 p.1 (ho p hp)).trans (NO p hp).1, (NO p hp).2⟩) hd2
end
theorem at_key : ∀ {kvs : List (Int × Value)}, (kvs.map (·.1)).Nodup → ∀ {i : Nat} {k : Int} {v : Value}, kvs[i]? = some (k, v) → valueAt kvs k = some v
  | [], _, i, k, v, h => by simp at h
  | q :: r, nd, 0, k, v, h => by
    simp at h; subst h
    simp [valueAt]
  | q :: r, nd, i + 1, k, v, h => by
    simp only [List.map_cons, List.nodup_cons] at nd
    have h' : r[i]? = some (k, v) := by simpa using h
    have ne : ¬ q.1 = k := fun e => nd.1 (by rw [e]; exact List.mem_map.mpr ⟨(k, v), List.mem_of_getElem? h', rfl⟩)
    have := at_key nd.2 h'
    unfold valueAt at this ⊢
    rw [List.find?_cons_of_neg (by simpa using ne)]
    exact this
theorem take_absent {kvs : List (Int × Value)} (nd : (kvs.map (·.1)).Nodup) {i : Nat} {k : Int} {v : Value} (h : kvs[i]? = some (k, v)) : valueAt (kvs.take i) k = none := by
  unfold valueAt
  rw [Option.map_eq_none_iff, List.find?_eq_none]
  intro q hq e
  have e' : q.1 = k := by simpa using e
  obtain ⟨j, hj, hq'⟩ := List.mem_take_iff_getElem.mp hq
  have h1 : kvs[j]? = some q := by rw [← hq']; exact List.getElem?_eq_getElem _
  have a1 : (kvs.map (·.1))[j]? = some k := by rw [List.getElem?_map, h1]; simp [e']
  have a2 : (kvs.map (·.1))[i]? = some k := by rw [List.getElem?_map, h]; rfl
  have := (List.getElem?_inj (by rw [List.length_map]; omega) nd).mp (a1.trans a2.symm)
  omega
theorem take_key {kvs : List (Int × Value)} (nd : (kvs.map (·.1)).Nodup) {i : Nat} {k : Int} {v : Value} (h : kvs[i]? = some (k, v)) : stored (kvs.take i) k v = kvs.take (i + 1) := by
  rw [stored_absent (take_absent nd h), List.take_add_one, h]
  rfl
theorem own_off {own : List (Addr × Obj)} {I r r2 : Addr} (h : ∀ p ∈ own, p.1 = I ∨ p.1 = r) (h1 : I ≠ r2) (h2 : r ≠ r2) : ∀ p ∈ own, p.1 ≠ r2 := fun p hp e => by
  rcases h p hp with q | q
  · exact h1 (q.symm.trans e)
  · exact h2 (q.symm.trans e)
theorem off_head {a I : Addr} {o o' : Obj} {l : List (Addr × Obj)} (h : ∀ p ∈ (a, o) :: l, p.1 ≠ I) : ∀ p ∈ (a, o') :: l, p.1 ≠ I := fun p hp => by
  rcases List.mem_cons.mp hp with rfl | hp
  · exact h (a, o) (.head _)
  · exact h p (.tail _ hp)
def CopyJ (prog : Program) (w : World) (m0 : Str → Option Value) (xn : Str) (r2 : Addr) (rest : List (Addr × Obj)) (kvs : List (Int × Value)) (i : Nat) (m : Str → Option Value) (news : List (Addr × Obj)) : Prop :=
  ∃ o2 vo, m = (fun y => if y = xn then vo else m0 y) ∧ news = (r2, o2) :: rest ∧ o2.IsDictOf (PySem.intKind prog w) (kvs.take i)
theorem dict_nodup {prog : Program} {w : World} {o : Obj} {kvs : List (Int × Value)} (h : o.IsDictOf (PySem.intKind prog w) kvs) : (kvs.map (·.1)).Nodup := by
  obtain ⟨_, _, _, _, _, _, nd⟩ := h
  exact nd
theorem ln184 : True := by
  k_with "subscriptTail" => row_timed "fresh" ((k_here; (with_reducible show wpAny _ _ (subscriptTail _ _ (Value.ref _) (Value.int _ _)) _ _ _); k_dflt (refine' kda_item (knd := PySem.intKind _ _) ?N ?m ?d (intKind_is _ _ _ _) ?v ?_ ?hs ?hg; (case N => k_asm); (case m => k_mem); (case d => assumption); (case v => assumption); (case hs => with_unfolding_all rfl); (case hg => (intro _; with_unfolding_all rfl)))))
  k_with "getItem ref int" => row_timed "fresh" ((k_here; k_dflt (refine' get_key ?N ?m ?d (intKind_is _ _ _ _) ?v ?_; (case N => k_asm); (case m => k_mem); (case d => assumption); (case v => assumption))))
  k_with "setItem ref int" => row_timed "fresh" ((k_here; k_dflt (refine' set_own ?F ?N ?U ?d (intKind_is _ _ _ _) ?z ?NO ?ho ?_; (case F => k_asm); (case N => k_asm); (case U => k_updF); (case d => assumption); (case z => walk_at "dict small"); (case NO => exact Box.out (by assumption)); (case ho => exact Box.out (by assumption))); intro h' o' F' N' NO' hd'; (try dsimp only at N')))
  k_with "dict small" => row_timed "fresh" ((rw [sizeLine_eq]; (try simp only [List.length_take]); omega))
  trivial
set_option maxHeartbeats 4000000 in
theorem copy_spec {prog : Program} {w : World} {p : Program} {loose : List Str} {mean : ExcName → Option Value} {mg mb : Str → Option Value} {dp un : Nat} {gd : Option (List Code)} {l : List Env} {s : Shared} {a e r : Addr} {oe orr : Obj} {pv : Value} {kvs : List (Int × Value)} {Q E : Value → Shared → Prop}
    (H : Here (hd.heap_1 w.params) p loose mean mg mb (cx dp un gd l) l [a, e, r] s.heap) (ha : s.heap.get? a = some (instObj 181 e)) (he : s.heap.get? e = some oe) (hr : s.heap.get? r = some orr) (hT : TabD w.params oe pv r) (hd' : orr.IsDictOf (PySem.intKind prog w) kvs) (lo : (r == sysModules) = false) (n1 : a ≠ e) (n2 : a ≠ r) (n3 : e ≠ r) (hpv : pv = .none ∨ ∃ b, pv = .ref b) (hl : kvs.length < 10000) (hdp : dp + 100 < 1000) (hun : un + 500 < 9900)
    (ret : ∀ h' tk a2 e2 oe2 r2 or2, Keep [] s.heap h' → h'.get? a2 = some (instObj 181 e2) → h'.get? e2 = some oe2 → TabD w.params oe2 pv r2 → h'.get? r2 = some or2 → or2.IsDictOf (PySem.intKind prog w) kvs → (r2 == sysModules) = false → s.heap.get? a2 = none → s.heap.get? e2 = none → s.heap.get? r2 = none → e2 ≠ r2 → Q (.ref a2) { s with heap := h', toks := tk }) :
    wpAny (model prog w) (cx dp un gd l) (call (.ref 178) [.ref a]) Q E s := by
  obtain ⟨u1, u2, rfl⟩ := hT
  refine wpAny_call ?_
  k_dflt (refine' enter (K := hd.heap_1 w.params) (p := p) (loose := loose) (mean := mean) (mg := mg) (mb := mb) (l := l) (binds := [((PySem.Str.ofString "self"), .ref a)]) (D := [(a, instObj 181 e), (e, _), (r, orr)]) ?H ?ND ?ho ?hcd ?hroom ?hbind ?hloc ?_ ?c2 ?c3 ?c4 ?c5; (case H => exact H); (case ho => k_is); (case hcd => k_is); (case hroom => (show dp < 1000; omega)); (case hbind => exact BindsTo.of_eq rfl); (case hloc => exact locs rfl); (case c2 => exact rfl); (case c3 => exact rfl); (case c4 => exact rfl); (case c5 => decide); k_whole)
  case ND => 
    intro q hq
    simp only [List.mem_cons, List.not_mem_nil, or_false] at hq
    rcases hq with rfl | rfl | rfl
    · exact ha
    · exact he
    · exact hr
  intro base g L' h₁ keep F' N' B' X' T' lt' sz'
  k_lt lt'
  (try dsimp only)
  try k_fold
  replace n1 := neN n1
  replace n2 := neN n2
  replace n3 := neN n3
  rcases hpv with rfl | ⟨b, rfl⟩
  all_goals (
    k_steps
    unfold Stop
    (rename Fr _ _ _ _ => FF; rename News _ _ _ _ => NN; rename Obj.IsDictOf (PySem.intKind _ _) _ [] => hd0; rename (_ == sysModules) = false => lo2)
    refine iter_keys (CopyJ prog w _ (Str.ofString "code") _ _ kvs) rfl lo (by k_mem) hd' FF NN ⟨_, none, none_name rfl, rfl, by rw [List.take_zero]; exact hd0⟩ ?turn ?fin
    case turn =>
      clear FF NN
      rintro i m news t h tk I own k v hk ⟨o2, vo, rfl, rfl, hdd⟩ F N NO hown off
      have hv := at_key (dict_nodup hd') hk
      have HO := Box.mk (own_off hown (Ne.symm (off _ (.head _))) (neN (by omega)))
      have NOS := Box.mk NO
      have offS := Box.mk off
      clear NO off hown
      k_steps
      (rename Fr _ _ _ _ => FF; rename Obj.IsDictOf _ _ (stored _ _ _) => hdn; rename News _ _ _ own => NO2; rename News _ _ _ (_ :: _) => NN)
      rw [take_key (dict_nodup hd') hk] at hdn
      exact ⟨_, _, _, _, rfl, FF, NN, NO2, off_head offS.out, _, _, one_name, rfl, hdn⟩
    case fin =>
      clear FF NN
      rintro m news h tk ⟨o2, vo, rfl, rfl, hdd⟩ F N
      rw [List.take_length] at hdd
      (try dsimp only)
      k_steps
      (rename Fr _ _ _ _ => FF; rename News _ _ _ _ => NN)
      exact ret _ _ _ _ _ _ _ (Keep.drop (Keep.drop (Keep.drop (fun b o e n => FF.keep b o (keep b o e n)) ha (NN.get (by k_mem))) he (NN.get (by k_mem))) hr (NN.get (by k_mem))) (NN.get (by k_mem)) (NN.get (by k_mem)) ⟨_, _, rfl⟩ (NN.get (by k_mem)) hdd lo2 (fresh_of keep (News.new NN (by k_mem)) (by walk_at "off3")) (fresh_of keep (News.new NN (by k_mem)) (by walk_at "off3")) (fresh_of keep (News.new NN (by k_mem)) (by walk_at "off3")) (neN (by omega)))
end Mine
end

/- Tabs -/
section
open PySem PySem.W PySem.Calls PyProof.Rows
theorem Mine.restTabs {prog : Program} {w : World} {A : Around} {env : Env} {Q : Flow → Shared → Prop} {E : Value → Shared → Prop} {s : Shared} (h : ∀ f s', Q f s') : wpAny (model prog w) A (execs [] env) Q E s := by
  k_with_none
  w_top off
  walk1
  exact h _ _
end
section
open PySem PySem.W PySem.Calls PyProof.Rows
namespace Mine
/-- a table of the law: the object, its dict, its rows, the law's own rows, its parent -/
structure TabRec where
  a : Addr
  e : Addr
  r : Addr
  k : Addr
  par : Option Nat
/-- what the rows and the law's own rows tell of one character -/
inductive RelV (P : Params) (h : Heap) (M : List Addr) (U : Addr → Prop) : Option Value → Option Value → Prop
  | none : RelV P h M U .none .none
  | at {x d : Addr} {od : Obj} {mv : Value} {f : Str} {t : Tok} : h.get? x = some (instObj 86 d) → h.get? d = some od → SynD P od (sg 64) mv f → U x → U d → RelV P h M U (some (.ref x)) (some (.str (Str.ofString "@") t))
  | syn {x d kx fa : Addr} {od : Obj} {mv mv2 : Value} {t1 : Tok} {c : Nat} {mt : Option Int} {ys : List Value} {fl : List Nat} : h.get? x = some (instObj 86 d) → h.get? d = some od → SynD P od (sg c) mv (tx fl) → MtIs mv mt → h.get? kx = some (tupO (.str (sg c) t1) mv2 (.ref fa)) → h.get? fa = some (LCg.lst ys) → fa ∉ M → MtIs mv2 mt → Sg ys fl → c ∈ KC → fl.Sublist FC → U x → U d → U kx → U fa →
      RelV P h M U (some (.ref x)) (some (.ref kx))
theorem intKeys {prog : Program} {w : World} {o : Obj} {kvs : List (Int × Value)} (h : o.IsDictOf (PySem.intKind prog w) kvs) {es : Array DictEntry} {n : Nat} (hd' : o.data = .dict es n) : ∀ e ∈ es, ∃ i t, e.key = .int i t := by
  obtain ⟨es', ep, _, hd2, hk, _⟩ := h
  rw [hd'] at hd2; cases hd2
  intro e he
  obtain ⟨k, hk'⟩ := hk e he
  obtain ⟨t, ht⟩ := Value.isInt_shape hk'.1
  exact ⟨_, t, ht⟩
theorem syn_ne_rows {prog : Program} {w : World} {P : Params} {h : Heap} {d r : Addr} {od o : Obj} {k f : Str} {mv : Value} {kvs : List (Int × Value)} (h1 : h.get? d = some od) (h2 : h.get? r = some o) (hS : SynD P od k mv f) (hd' : o.IsDictOf (PySem.intKind prog w) kvs) : d ≠ r := fun q => by
  subst q; rw [h1] at h2; cases h2
  obtain ⟨_, _, _, _, _, rfl⟩ := hS
  obtain ⟨i, t, z⟩ := intKeys hd' rfl _ (List.mem_toArray.mpr (.head _))
  cases z
theorem tab_ne_rows {prog : Program} {w : World} {P : Params} {h : Heap} {e r r' : Addr} {oe o : Obj} {pv : Value} {kvs : List (Int × Value)} (h1 : h.get? e = some oe) (h2 : h.get? r = some o) (hT : TabD P oe pv r') (hd' : o.IsDictOf (PySem.intKind prog w) kvs) : e ≠ r := fun q => by
  subst q; rw [h1] at h2; cases h2
  obtain ⟨_, _, rfl⟩ := hT
  obtain ⟨i, t, z⟩ := intKeys hd' rfl _ (List.mem_toArray.mpr (.head _))
  cases z
/-- what a list is, what a tuple is -/
theorem list_ne_dict {h : Heap} {a b : Addr} {vs : Array Value} {n : Nat} {o : Obj} (h1 : h.get? a = some (W.listOf vs n)) (h2 : h.get? b = some o) (hd' : ∃ es k, o.data = .dict es k) : a ≠ b := ne_of_data h1 h2 fun q => by
  obtain ⟨es, k, z⟩ := hd'
  rw [z] at q; cases q
theorem inst_ne_list {h : Heap} {a b C e : Addr} {vs : Array Value} {n : Nat} (h1 : h.get? a = some (instObj C e)) (h2 : h.get? b = some (W.listOf vs n)) : a ≠ b := ne_of_data h1 h2 fun q => by cases q
theorem tup_ne_list {h : Heap} {a b : Addr} {x y z : Value} {vs : Array Value} {n : Nat} (h1 : h.get? a = some (tupO x y z)) (h2 : h.get? b = some (W.listOf vs n)) : a ≠ b := fun q => by
  subst q; rw [h1] at h2
  injection h2 with h2
  have := congrArg Obj.cls h2
  simp at this
theorem tup_ne_dict {h : Heap} {a b : Addr} {x y z : Value} {o : Obj} (h1 : h.get? a = some (tupO x y z)) (h2 : h.get? b = some o) (hd' : ∃ es k, o.data = .dict es k) : a ≠ b := ne_of_data h1 h2 fun q => by
  obtain ⟨es, k, z⟩ := hd'
  rw [z] at q; cases q
section
variable {prog : Program} {w : World} {h h' : Heap} {M X : List Addr} {U : Addr → Prop}
/-- the addresses that may change: lists of M and rows -/
def Mut (prog : Program) (w : World) (h : Heap) (M X : List Addr) : Prop := ∀ b ∈ X, (b ∈ M ∧ ∃ vs n, h.get? b = some (W.listOf vs n)) ∨ ∃ o kvs, h.get? b = some o ∧ o.IsDictOf (PySem.intKind prog w) kvs
theorem RelV.keep {ov ok : Option Value} (hX : Mut prog w h M X) (k : ∀ b o, h.get? b = some o → b ∉ X → h'.get? b = some o) (R : RelV w.params h M U ov ok) : RelV w.params h' M U ov ok := by
  have inst : ∀ {x C e : Addr}, h.get? x = some (instObj C e) → x ∉ X := fun g m => by
    rcases hX _ m with ⟨_, vs, n, z⟩ | ⟨o, kvs, z, q⟩
    · exact inst_ne_list g z rfl
    · exact inst_ne_dict g z (isDict_data q) rfl
  have syn : ∀ {d : Addr} {od : Obj} {kk f : Str} {mv : Value}, h.get? d = some od → SynD w.params od kk mv f → d ∉ X := fun g hS m => by
    rcases hX _ m with ⟨_, vs, n, z⟩ | ⟨o, kvs, z, q⟩
    · exact list_ne_dict z g (syn_data hS) rfl
    · exact syn_ne_rows g z hS q rfl
  cases R with
  | none => exact .none
  | «at» g1 g2 hS ux ud => exact .at (k _ _ g1 (inst g1)) (k _ _ g2 (syn g2 hS)) hS ux ud
  | syn g1 g2 hS hm g3 g4 hn hm2 hs hc hf ux ud uk uf =>
    refine .syn (k _ _ g1 (inst g1)) (k _ _ g2 (syn g2 hS)) hS hm (k _ _ g3 fun m => ?_) (k _ _ g4 fun m => ?_) hn hm2 hs hc hf ux ud uk uf
    · rcases hX _ m with ⟨_, vs, n, z⟩ | ⟨o, kvs, z, q⟩
      · exact tup_ne_list g3 z rfl
      · exact tup_ne_dict g3 z (isDict_data q) rfl
    · rcases hX _ m with ⟨m2, vs, n, z⟩ | ⟨o, kvs, z, q⟩
      · exact hn m2
      · exact list_ne_dict (n := _) (show h.get? _ = some (W.listOf _ _) from g4) z (isDict_data q) rfl
end
def parV (ts : List TabRec) : Option Nat → Value
  | .none => .none
  | .some j => match ts[j]? with
    | some t => .ref t.a
    | none => .none
inductive PI : Value → Option Nat → Prop
  | none : PI .none .none
  | some (j : Nat) (t : Tok) : PI (.int (j : Int) t) (.some j)
structure Rec1 (prog : Program) (w : World) (h : Heap) (M : List Addr) (U : Addr → Prop) (ts : List TabRec) (bound i : Nat) (t : TabRec) (kvs kks : List (Int × Value)) : Prop where
  par_lt : ∀ j, t.par = some j → j < i
  ga : h.get? t.a = some (instObj 181 t.e)
  ge : ∃ oe, h.get? t.e = some oe ∧ TabD w.params oe (parV ts t.par) t.r
  gr : ∃ o, h.get? t.r = some o ∧ o.IsDictOf (PySem.intKind prog w) kvs
  gk : ∃ o, h.get? t.k = some o ∧ o.IsDictOf (PySem.intKind prog w) kks
  lo : (t.r == sysModules) = false
  lo2 : (t.k == sysModules) = false
  len1 : kvs.length ≤ bound
  len2 : kks.length ≤ bound
  aw : U t.a ∧ U t.e ∧ U t.r ∧ U t.k
  rel : ∀ code, RelV w.params h M U (valueAt kvs code) (valueAt kks code)
structure Tabs (prog : Program) (w : World) (h : Heap) (U : Addr → Prop) (dk d0 T KR PP : Addr) (ts : List TabRec) (bound : Nat) : Prop where
  gT : ∃ n, h.get? T = some (W.listOf (ts.map fun t => Value.ref t.a).toArray n)
  gK : ∃ n, h.get? KR = some (W.listOf (ts.map fun t => Value.ref t.k).toArray n)
  gP : ∃ n ps, h.get? PP = some (W.listOf (ps : List Value).toArray n) ∧ ps.length = ts.length ∧ ∀ (i : Nat) (v : Value) (t : TabRec), ps[i]? = some v → ts[i]? = some t → PI v t.par
  each : ∀ (i : Nat) (t : TabRec), ts[i]? = some t → ∃ kvs kks, Rec1 prog w h [dk, d0, T, KR, PP] U ts bound i t kvs kks
  nd : ∀ (i j : Nat) (t t' : TabRec), ts[i]? = some t → ts[j]? = some t' → (i ≠ j → t.r ≠ t'.r ∧ t.k ≠ t'.k) ∧ t.r ≠ t'.k
  five : [dk, d0, T, KR, PP].Nodup
  aw : ∀ b ∈ [dk, d0, T, KR, PP], U b
  len : ts.length ≤ 5
  gd : ∃ o o0, h.get? dk = some o ∧ h.get? d0 = some o0 ∧ Deck d0 o o0
theorem deck_lists {d0 : Addr} {o o0 : Obj} (hD : Deck d0 o o0) : (∃ vs n, o = W.listOf vs n) ∧ ∃ vs n, o0 = W.listOf vs n := by
  obtain ⟨n1, t1, n2, t2, e1, e2, vs, ns, rfl, rfl, _, _⟩ := hD
  exact ⟨⟨_, _, rfl⟩, ⟨_, _, rfl⟩⟩
section
variable {prog : Program} {w : World} {h h' : Heap} {dk d0 T KR PP : Addr} {ts : List TabRec} {bound : Nat} {U : Addr → Prop}
/-- the lists of the law -/
theorem Tabs.lists (X : Tabs prog w h U dk d0 T KR PP ts bound) : ∀ b ∈ [dk, d0, T, KR, PP], ∃ vs n, h.get? b = some (W.listOf vs n) := by
  obtain ⟨o, o0, g1, g2, hD⟩ := X.gd
  obtain ⟨⟨v1, m1, rfl⟩, ⟨v2, m2, rfl⟩⟩ := deck_lists hD
  obtain ⟨n3, g3⟩ := X.gT
  obtain ⟨n4, g4⟩ := X.gK
  obtain ⟨n5, ps, g5, _⟩ := X.gP
  intro b hb
  simp only [List.mem_cons, List.not_mem_nil, or_false] at hb
  rcases hb with rfl | rfl | rfl | rfl | rfl
  · exact ⟨_, _, g1⟩
  · exact ⟨_, _, g2⟩
  · exact ⟨_, _, g3⟩
  · exact ⟨_, _, g4⟩
  · exact ⟨_, _, g5⟩
/-- the deck and one table's rows turned -/
theorem Tabs.step (X : Tabs prog w h U dk d0 T KR PP ts bound) {i : Nat} {t : TabRec} (hi : ts[i]? = some t) (k : ∀ b o, h.get? b = some o → b ∉ [dk, d0, t.r, t.k] → h'.get? b = some o)
    {o' o0' or' ok' : Obj} {kvs' kks' : List (Int × Value)} {bound' : Nat} (g1 : h'.get? dk = some o') (g2 : h'.get? d0 = some o0') (hD : Deck d0 o' o0') (g3 : h'.get? t.r = some or') (h3 : or'.IsDictOf (PySem.intKind prog w) kvs') (g4 : h'.get? t.k = some ok') (h4 : ok'.IsDictOf (PySem.intKind prog w) kks')
    (hb : bound ≤ bound') (l1 : kvs'.length ≤ bound') (l2 : kks'.length ≤ bound') (rel : ∀ code, RelV w.params h' [dk, d0, T, KR, PP] U (valueAt kvs' code) (valueAt kks' code)) : Tabs prog w h' U dk d0 T KR PP ts bound' := by
  have ls := X.lists
  obtain ⟨kvs, kks, Ri⟩ := X.each i t hi
  obtain ⟨ro, gr, hr⟩ := Ri.gr
  obtain ⟨ko, gk, hk⟩ := Ri.gk
  have hX : Mut prog w h [dk, d0, T, KR, PP] [dk, d0, t.r, t.k] := fun b hb => by
    simp only [List.mem_cons, List.not_mem_nil, or_false] at hb
    rcases hb with rfl | rfl | rfl | rfl
    · exact .inl ⟨by simp, ls _ (by simp)⟩
    · exact .inl ⟨by simp, ls _ (by simp)⟩
    · exact .inr ⟨_, _, gr, hr⟩
    · exact .inr ⟨_, _, gk, hk⟩
  have five := X.five
  simp only [List.nodup_cons, List.mem_cons, List.not_mem_nil, or_false, not_or, not_false_eq_true, List.nodup_nil, and_true] at five
  obtain ⟨⟨_, f1, f2, f3⟩, ⟨f4, f5, f6⟩, _⟩ := five
  have lst : ∀ {b : Addr} {vs : Array Value} {n : Nat}, h.get? b = some (W.listOf vs n) → b ≠ dk → b ≠ d0 → h'.get? b = some (W.listOf vs n) := fun g n1 n2 => k _ _ g (by
    simp only [List.mem_cons, List.not_mem_nil, or_false, not_or]
    exact ⟨n1, n2, list_ne_dict g gr (isDict_data hr), list_ne_dict g gk (isDict_data hk)⟩)
  refine ⟨?_, ?_, ?_, fun j t' hj => ?_, X.nd, X.five, X.aw, X.len, ⟨_, _, g1, g2, hD⟩⟩
  · obtain ⟨n, g⟩ := X.gT
    exact ⟨n, lst g (Ne.symm f1) (Ne.symm f4)⟩
  · obtain ⟨n, g⟩ := X.gK
    exact ⟨n, lst g (Ne.symm f2) (Ne.symm f5)⟩
  · obtain ⟨n, ps, g, r⟩ := X.gP
    exact ⟨n, ps, lst g (Ne.symm f3) (Ne.symm f6), r⟩
  · obtain ⟨kvj, kkj, Rj⟩ := X.each j t' hj
    have inst : h'.get? t'.a = some (instObj 181 t'.e) := k _ _ Rj.ga fun m => by
      rcases hX _ m with ⟨_, vs, n, z⟩ | ⟨o, kvs, z, q⟩
      · exact inst_ne_list Rj.ga z rfl
      · exact inst_ne_dict Rj.ga z (isDict_data q) rfl
    have dct : ∃ oe, h'.get? t'.e = some oe ∧ TabD w.params oe (parV ts t'.par) t'.r := by
      obtain ⟨oe, g, hT⟩ := Rj.ge
      refine ⟨oe, k _ _ g fun m => ?_, hT⟩
      rcases hX _ m with ⟨_, vs, n, z⟩ | ⟨o, kvs, z, q⟩
      · exact list_ne_dict z g (tab_data hT) rfl
      · exact tab_ne_rows g z hT q rfl
    by_cases hij : i = j
    · subst hij
      rw [hi] at hj; cases hj
      exact ⟨kvs', kks', Rj.par_lt, inst, dct, ⟨_, g3, h3⟩, ⟨_, g4, h4⟩, Rj.lo, Rj.lo2, l1, l2, Rj.aw, rel⟩
    · obtain ⟨n1, n2⟩ := (X.nd i j t t' hi hj)
      obtain ⟨n1, n3⟩ := n1 hij
      have n4 := (X.nd j i t' t hj hi).2
      obtain ⟨oj, gj, hj'⟩ := Rj.gr
      obtain ⟨oj2, gj2, hj2⟩ := Rj.gk
      have nl : ∀ {b : Addr} {o : Obj} {kv : List (Int × Value)}, h.get? b = some o → o.IsDictOf (PySem.intKind prog w) kv → b ≠ dk ∧ b ≠ d0 := fun g q => by
        obtain ⟨v1, m1, z1⟩ := ls dk (by simp)
        obtain ⟨v2, m2, z2⟩ := ls d0 (by simp)
        exact ⟨Ne.symm (list_ne_dict z1 g (isDict_data q)), Ne.symm (list_ne_dict z2 g (isDict_data q))⟩
      refine ⟨kvj, kkj, Rj.par_lt, inst, dct, ⟨_, k _ _ gj ?_, hj'⟩, ⟨_, k _ _ gj2 ?_, hj2⟩, Rj.lo, Rj.lo2, Nat.le_trans Rj.len1 hb, Nat.le_trans Rj.len2 hb, Rj.aw, fun code => (Rj.rel code).keep hX k⟩
      · simp only [List.mem_cons, List.not_mem_nil, or_false, not_or]
        exact ⟨(nl gj hj').1, (nl gj hj').2, Ne.symm n1, n4⟩
      · simp only [List.mem_cons, List.not_mem_nil, or_false, not_or]
        exact ⟨(nl gj2 hj2).1, (nl gj2 hj2).2, Ne.symm n2, Ne.symm n3⟩
end
end Mine
end

/- DeedA -/
section
open PySem PySem.W PySem.Calls PyProof.Rows
theorem Mine.restDeedA {prog : Program} {w : World} {A : Around} {env : Env} {Q : Flow → Shared → Prop} {E : Value → Shared → Prop} {s : Shared} (h : ∀ f s', Q f s') : wpAny (model prog w) A (execs [] env) Q E s := by
  k_with_none
  w_top off
  walk1
  exact h _ _
end
section
open PySem PySem.W PySem.Calls PyProof.Rows
namespace Mine

theorem find_map {kvs : List (Int × Value)} {k j : Int} {v : Value} : ((kvs.map fun kv => if kv.1 = k then (kv.1, v) else kv).find? fun kv => kv.1 = j).map (·.2) = if j = k then (if kvs.any (fun kv => kv.1 = k) then some v else none) else (kvs.find? fun kv => kv.1 = j).map (·.2) := by
  induction kvs with
  | nil => simp
  | cons q r ih =>
    rw [List.map_cons, List.find?_cons, List.find?_cons, List.any_cons]
    by_cases h1 : q.1 = k
    · by_cases h2 : j = k
      · subst h2; simp [h1]
      · have : ¬ k = j := fun e => h2 e.symm
        simp only [h1, if_true, this, decide_false, h2, if_false]
        rw [ih, if_neg h2]
    · by_cases h2 : j = k
      · subst h2
        simp only [h1, if_false, decide_false, if_true, Bool.false_or]
        rw [ih, if_pos rfl]
      · simp only [h1, if_false, h2]
        by_cases h3 : q.1 = j
        · simp [h3]
        · simp only [h3, decide_false]
          rw [ih, if_neg h2]
theorem valueAt_stored {kvs : List (Int × Value)} {k j : Int} {v : Value} : valueAt (stored kvs k v) j = if j = k then some v else valueAt kvs j := by
  unfold stored valueAt
  split
  · rename_i h
    rw [find_map, if_pos h]
  · rename_i h
    rw [List.find?_append]
    by_cases e : j = k
    · subst e
      have : kvs.find? (fun kv => kv.1 = j) = none := by
        rw [List.find?_eq_none]
        intro q hq z
        exact h (List.any_eq_true.mpr ⟨q, hq, z⟩)
      simp [this]
    · have : ¬ k = j := fun z => e z.symm
      simp [e, this]
theorem rel_stored {P : Params} {h : Heap} {M : List Addr} {U : Addr → Prop} {kvs kks : List (Int × Value)} {v kv : Value} (R : ∀ code, RelV P h M U (valueAt kvs code) (valueAt kks code)) (r : RelV P h M U (some v) (some kv)) (c : Int) : ∀ code, RelV P h M U (valueAt (stored kvs c v) code) (valueAt (stored kks c kv) code) := by
  intro code
  rw [valueAt_stored, valueAt_stored]
  by_cases e : code = c
  · rw [if_pos e, if_pos e]; exact r
  · rw [if_neg e, if_neg e]; exact R code
section
variable {prog : Program} {w : World} {A : Around} {E : Value → Shared → Prop} {s : Shared} {h₀ : Heap} {L l : Addr} {news : List (Addr × Obj)}
theorem len_at {us : List Value} {n : Nat} {Q : Value → Shared → Prop} (N : News h₀ L s.heap news) (hm : (l, W.listOf us.toArray n) ∈ news) (hl : us.length < 1000) (h : ∀ t k, Q (.int (us.length : Int) t) { s with toks := k }) : wpAny (model prog w) A (call (.builtin "len") [.ref l]) Q E s := by
  have hl' : s.heap.IsList l us.toArray := ⟨_, (N _ hm).1, rfl, n, rfl⟩
  have e : us.toArray.size = us.length := by simp
  exact len_list hl' (by rw [e]; omega) (by rw [e]; exact h _ _)
end
abbrev objOf (h : Heap) (a : Addr) : Addr × Obj := (a, (h.get? a).getD default)
abbrev tabA (ts : List TabRec) : List Addr := ts.flatMap fun t => [t.a, t.e, t.r, t.k]
theorem tab_there {prog : Program} {w : World} {h : Heap} {dk d0 T KR PP : Addr} {ts : List TabRec} {bound : Nat} {U : Addr → Prop} (X : Tabs prog w h U dk d0 T KR PP ts bound) : ∀ q ∈ (tabA ts).map (objOf h), h.get? q.1 = some q.2 ∧ ((∃ C e, q.2 = instObj C e) ∨ ∃ es n, q.2.data = .dict es n) := by
  intro q hq
  obtain ⟨b, hb, rfl⟩ := List.mem_map.mp hq
  obtain ⟨t, ht, hb⟩ := List.mem_flatMap.mp hb
  obtain ⟨i, hi⟩ := List.getElem?_of_mem ht
  obtain ⟨kvs, kks, R⟩ := X.each i t hi
  obtain ⟨oe, ge, hT⟩ := R.ge
  obtain ⟨o1, gr, hr⟩ := R.gr
  obtain ⟨o2, gk, hk⟩ := R.gk
  simp only [List.mem_cons, List.not_mem_nil, or_false] at hb
  rcases hb with rfl | rfl | rfl | rfl
  · show h.get? t.a = some ((h.get? t.a).getD default) ∧ _
    rw [R.ga]; exact ⟨rfl, .inl ⟨181, t.e, by simp [R.ga]⟩⟩
  · show h.get? t.e = some ((h.get? t.e).getD default) ∧ _
    rw [ge]; exact ⟨rfl, .inr (by simpa [ge] using tab_data hT)⟩
  · show h.get? t.r = some ((h.get? t.r).getD default) ∧ _
    rw [gr]; exact ⟨rfl, .inr (by simpa [gr] using isDict_data hr)⟩
  · show h.get? t.k = some ((h.get? t.k).getD default) ∧ _
    rw [gk]; exact ⟨rfl, .inr (by simpa [gk] using isDict_data hk)⟩
theorem tab_off {prog : Program} {w : World} {h : Heap} {dk d0 T KR PP b : Addr} {ts : List TabRec} {bound : Nat} {U : Addr → Prop} (X : Tabs prog w h U dk d0 T KR PP ts bound) (hb : b ∈ [dk, d0, T, KR, PP]) : ∀ q ∈ (tabA ts).map (objOf h), q.1 ≠ b := by
  intro q hq e
  obtain ⟨g, hk⟩ := tab_there X q hq
  obtain ⟨vs, n, z⟩ := X.lists b hb
  rw [e, z] at g
  injection g with g
  rcases hk with ⟨C, e', hk⟩ | ⟨es, n', hk⟩
  · rw [← g] at hk; cases hk
  · rw [← g] at hk; cases hk
theorem fresh_ne {h : Heap} {a b : Addr} {o : Obj} (h1 : h.get? a = none) (h2 : h.get? b = some o) : a ≠ b := fun q => by
  subst q; rw [h1] at h2; cases h2
theorem reground {K : Frag} {p : Program} {loose : List Str} {mean : ExcName → Option Value} {mg mb : Str → Option Value} {A : Around} {l : List Env} {D : List (Addr × Obj)} {D9 : List Addr} {h g h2 : Heap} {L : Addr} {m : Str → Option Value}
    (H : Here K p loose mean mg mb A l (D.map (·.1)) h) (hsub : ∀ a ∈ D9, a ∈ D.map (·.1)) (keep : ∀ b o, h.get? b = some o → ¬b ∈ D.map (·.1) → g.get? b = some o) (FF : Fr g L h2 m) (sz : h.objs.size ≤ L)
    (same : ∀ b o, b ∈ D.map (·.1) → b ∉ D9 → h.get? b = some o → h2.get? b = some o) :
    ∃ base g', Below A base l g' ∧ K.In g' ∧ Top p loose mean mg mb g' ∧ Fr g' L h2 m ∧ (∀ b o, h.get? b = some o → b ∉ D9 → g'.get? b = some o) ∧ (∀ b o, g'.get? b = some o → h.get? b = some o ∧ b ∉ D9) := by
  have up : ∀ b o, (hideAll h (D.map (·.1))).get? b = some o → (hideAll h D9).get? b = some o := fun b o z => hideAll_get _ (of_hideAll _ z) fun hm => by
    rw [hideAll_none _ (hsub b hm)] at z; cases z
  obtain ⟨base, B⟩ := H.base
  refine ⟨base, hideAll h D9, ⟨B.stack, fun b o z => up b o (B.stays b o z), B.frames.of_keeps fun b o z _ => ⟨o, up b o z, rfl⟩⟩, H.k.keeps up, H.top.keeps up, ⟨FF.ns, fun b o z => ?_, Nat.le_trans (Nat.le_of_eq (hideAll_size _ _)) sz⟩, fun b o z n => hideAll_get _ z n, fun b o z => ⟨of_hideAll _ z, fun hm => by rw [hideAll_none _ hm] at z; cases z⟩⟩
  have hz := of_hideAll _ z
  have n9 : b ∉ D9 := fun hm => by rw [hideAll_none _ hm] at z; cases z
  by_cases hm : b ∈ D.map (·.1)
  · exact same b o hm n9 hz
  · exact FF.keep b o (keep b o hz hm)
theorem news_in {h h2 g' : Heap} {L : Addr} {D9 : List Addr} (back : ∀ b o, g'.get? b = some o → h.get? b = some o ∧ b ∉ D9) {q : Addr × Obj} {n : List (Addr × Obj)} (g1 : h2.get? q.1 = some q.2) (n1 : q.1 ≠ L) (n2 : q.1 ∈ D9 ∨ h.get? q.1 = none) (N : News g' L h2 n) : News g' L h2 (q :: n) := fun p hp => by
  rcases List.mem_cons.mp hp with rfl | hp
  · refine ⟨g1, n1, ?_⟩
    cases z : g'.get? p.1 with
    | none => rfl
    | some o =>
      obtain ⟨a, b⟩ := back _ _ z
      rcases n2 with n2 | n2
      · exact absurd n2 b
      · rw [n2] at a; cases a
  · exact N p hp
theorem off1_mem {a : Addr} : ∀ {l : List (Addr × Obj)}, LCg.Off1 a l → ∀ q ∈ l, q.1 ≠ a
  | [], _, _, h => by cases h
  | p :: r, x, q, h => by
    rcases List.mem_cons.mp h with rfl | h
    · exact x.1
    · exact off1_mem x.2 q h
theorem notinD {a x1 x2 x3 x4 x5 : Addr} {o1 o2 o3 o4 o5 : Obj} {R : List (Addr × Obj)} (h1 : x1 ≠ a) (h2 : x2 ≠ a) (h3 : x3 ≠ a) (h4 : x4 ≠ a) (h5 : x5 ≠ a) (hR : ∀ q ∈ R, q.1 ≠ a) : a ∉ ((x1, o1) :: (x2, o2) :: (x3, o3) :: (x4, o4) :: (x5, o5) :: R).map (·.1) := by
  intro hm
  simp only [List.map_cons, List.mem_cons] at hm
  rcases hm with e | e | e | e | e | hm
  · exact h1 e.symm
  · exact h2 e.symm
  · exact h3 e.symm
  · exact h4 e.symm
  · exact h5 e.symm
  · obtain ⟨q, hq, e⟩ := List.mem_map.mp hm
    exact hR q hq e
theorem mem_tails {q a1 a2 a3 a4 a5 a6 a7 a8 a9 a10 a11 : Addr × Obj} {R : List (Addr × Obj)} (h : q ∈ R) : q ∈ a1 :: a2 :: a3 :: a4 :: a5 :: a6 :: a7 :: a8 :: a9 :: a10 :: a11 :: R := by
  simp [h]
theorem tabA_mem {t : TabRec} {ts : List TabRec} {b : Addr} (ht : t ∈ ts) (hb : b ∈ [t.a, t.e, t.r, t.k]) : b ∈ tabA ts := List.mem_flatMap.mpr ⟨t, ht, hb⟩
theorem way_cases {way : Int} (h0 : 0 ≤ way) (h1 : way < 6) : way = 0 ∨ way = 1 ∨ way = 2 ∨ way = 3 ∨ way = 4 ∨ way = 5 := by omega
theorem sub9 {x1 x2 x3 x4 x5 : Addr} {o1 o2 o3 o4 o5 : Obj} {h : Heap} {t : TabRec} {ts : List TabRec} (ht : t ∈ ts) : ∀ a ∈ [x1, x2, x3, x4, x5, t.a, t.e, t.r, t.k], a ∈ ((x1, o1) :: (x2, o2) :: (x3, o3) :: (x4, o4) :: (x5, o5) :: (tabA ts).map (objOf h)).map (·.1) := by
  have e : ((tabA ts).map (objOf h)).map (·.1) = tabA ts := by simp [Function.comp_def]
  have m : ∀ b ∈ [t.a, t.e, t.r, t.k], b ∈ tabA ts := fun b hb => List.mem_flatMap.mpr ⟨t, ht, hb⟩
  intro a ha
  simp only [List.map_cons, e]
  simp only [List.mem_cons, List.not_mem_nil, or_false] at ha m ⊢
  rcases ha with r | r | r | r | r | r
  · exact .inl r
  · exact .inr (.inl r)
  · exact .inr (.inr (.inl r))
  · exact .inr (.inr (.inr (.inl r)))
  · exact .inr (.inr (.inr (.inr (.inl r))))
  · exact .inr (.inr (.inr (.inr (.inr (m a r)))))
theorem same9 {x1 x2 x3 x4 x5 y1 y2 y3 y4 L : Addr} {o1 o2 o3 o4 o5 : Obj} {h h2 : Heap} {ts : List TabRec} (inR : ∀ b ∈ tabA ts, ∀ o, h.get? b = some o → h2.get? b = some o ∧ b ≠ L) : ∀ b o, b ∈ ((x1, o1) :: (x2, o2) :: (x3, o3) :: (x4, o4) :: (x5, o5) :: (tabA ts).map (objOf h)).map (·.1) → b ∉ [x1, x2, x3, x4, x5, y1, y2, y3, y4] → h.get? b = some o → h2.get? b = some o := by
  intro b o hm n z
  have e : ((tabA ts).map (objOf h)).map (·.1) = tabA ts := by simp [Function.comp_def]
  simp only [List.map_cons, e, List.mem_cons] at hm
  simp only [List.mem_cons, not_or] at n
  rcases hm with r | r | r | r | r | r
  · exact absurd r n.1
  · exact absurd r n.2.1
  · exact absurd r n.2.2.1
  · exact absurd r n.2.2.2.1
  · exact absurd r n.2.2.2.2.1
  · exact (inR b r o z).1
theorem keep9 {h g2 h' : Heap} {dk d0 T KR PP : Addr} {t : TabRec} {oT oK oP oa oe : Obj} (kin : ∀ b o, h.get? b = some o → b ∉ [dk, d0, T, KR, PP, t.a, t.e, t.r, t.k] → g2.get? b = some o) (kp : ∀ b o, g2.get? b = some o → h'.get? b = some o) (g1 : h.get? T = some oT) (g2' : h.get? KR = some oK) (g3 : h.get? PP = some oP) (g4 : h.get? t.a = some oa) (g5 : h.get? t.e = some oe)
    (e1 : h'.get? T = some oT) (e2 : h'.get? KR = some oK) (e3 : h'.get? PP = some oP) (e4 : h'.get? t.a = some oa) (e5 : h'.get? t.e = some oe) : ∀ b o, h.get? b = some o → b ∉ [dk, d0, t.r, t.k] → h'.get? b = some o := by
  intro b o z n
  simp only [List.mem_cons, List.not_mem_nil, or_false, not_or] at n
  by_cases c1 : b = T
  · subst c1; rw [g1] at z; cases z; exact e1
  by_cases c2 : b = KR
  · subst c2; rw [g2'] at z; cases z; exact e2
  by_cases c3 : b = PP
  · subst c3; rw [g3] at z; cases z; exact e3
  by_cases c4 : b = t.a
  · subst c4; rw [g4] at z; cases z; exact e4
  by_cases c5 : b = t.e
  · subst c5; rw [g5] at z; cases z; exact e5
  exact kp b o (kin b o z (by simp only [List.mem_cons, List.not_mem_nil, or_false, not_or]; exact ⟨n.1, n.2.1, c1, c2, c3, c4, c5, n.2.2.1, n.2.2.2⟩))
theorem mut9 {prog : Program} {w : World} {h : Heap} {dk d0 T KR PP : Addr} {ts : List TabRec} {bound : Nat} {U : Addr → Prop} (X : Tabs prog w h U dk d0 T KR PP ts bound) {r k : Addr} {o1 o2 : Obj} {kvs kks : List (Int × Value)} (gr : h.get? r = some o1) (hr : o1.IsDictOf (PySem.intKind prog w) kvs) (gk : h.get? k = some o2) (hk : o2.IsDictOf (PySem.intKind prog w) kks) : Mut prog w h [dk, d0, T, KR, PP] [dk, d0, r, k] := fun b hb => by
  simp only [List.mem_cons, List.not_mem_nil, or_false] at hb
  rcases hb with rfl | rfl | rfl | rfl
  · exact .inl ⟨by simp, X.lists _ (by simp)⟩
  · exact .inl ⟨by simp, X.lists _ (by simp)⟩
  · exact .inr ⟨_, _, gr, hr⟩
  · exact .inr ⟨_, _, gk, hk⟩
theorem off9 {b dk d0 T KR PP : Addr} {t : TabRec} {ts : List TabRec} (ht : t ∈ ts) (n : b ∉ [dk, d0, T, KR, PP] ++ tabA ts) : b ∉ [dk, d0, t.r, t.k] := fun hm => n (by
  simp only [List.mem_cons, List.not_mem_nil, or_false] at hm
  rcases hm with e | e | e | e
  · exact List.mem_append_left _ (by simp [e])
  · exact List.mem_append_left _ (by simp [e])
  · exact List.mem_append_right _ (tabA_mem ht (by simp [e]))
  · exact List.mem_append_right _ (tabA_mem ht (by simp [e])))

end Mine
end

/- All -/
section
open PySem PySem.W PySem.Calls PyProof.Rows
theorem Mine.restAll {prog : Program} {w : World} {A : Around} {env : Env} {Q : Flow → Shared → Prop} {E : Value → Shared → Prop} {s : Shared} (h : ∀ f s', Q f s') : wpAny (model prog w) A (execs [] env) Q E s := by
  k_with_none
  w_top off
  walk1
  exact h _ _
end
section
open PySem PySem.W PySem.Calls PyProof.Rows
namespace Mine
theorem ln188 : True := by
  k_with "mine room" => row_timed "fresh" (((try simp only [depth_under_make, depth_under_kw, depth_in1, depth_deeper, units_in1, units_deeper]); (try dsimp only [cx, ktrTop]); (try simp only [cLine]); omega))
  trivial
local macro_rules | `(tactic| k_room) => `(tactic| ((try simp only [depth_under_make, depth_under_kw, depth_in1, depth_deeper]); (try dsimp only [cx, ktrTop]); (try dsimp only [recursionLimit]); omega))
theorem ln189 : True := by
  k_with "call ref" => row_timed "fresh" ((k_here; (with_reducible show wpAny _ _ (call (Value.ref 207) [Value.ref _]) _ _ _); k_dflt (refine' known_call ?k1 ?k2 ?k3 ?k4 ?k5 ?kk ?D ?ne ?U ?U2 ?d1 ?d2 ?_; (case k1 => k_asm); (case k2 => k_asm); (case k3 => k_asm); (case k4 => k_asm); (case k5 => k_asm); (case kk => exact rfl); (case D => with_reducible assumption); (case U => k_updF); (case U2 => (intro x9; (try dsimp only); k_updF)); (case ne => assumption); (case d1 => walk_at "mine room"); (case d2 => walk_at "mine room"); k_whole); intro h' tk' xk fk ck t1' mv' mt' ys' fl' o' o0' F' N' D' of ox nfx hck hmk hsk hfk; (try simp only [LCg.Off1, and_true] at of ox); (have hfl9 := fc_len hfk); (try dsimp only at N'); (try k_sweep); (try k_fold)))
  k_with "call ref" => row_timed "fresh" ((k_here; (with_reducible show wpAny _ _ (call (Value.ref 214) [Value.ref _, Value.ref _]) _ _ _); k_dflt (refine' text_call ?k1 ?k2 ?k3 ?k4 ?k5 ?kk ?D ?ne ?U ?U2 ?mx ?mf ?n1 ?n2 ?n3 ?n4 ?n5 ?hc ?hm ?hs ?hf ?d1 ?d2 ?_; (case k1 => k_asm); (case k2 => k_asm); (case k3 => k_asm); (case k4 => k_asm); (case k5 => k_asm); (case kk => exact rfl); (case D => with_reducible assumption); (case U => k_updF); (case U2 => (intro x9; (try dsimp only); k_updF)); (case ne => assumption); (case mx => k_mem); (case mf => k_mem); (case n1 => k_ne); (case n2 => k_ne); (case n3 => k_ne); (case n4 => k_ne); (case n5 => k_ne); (case hc => assumption); (case hm => assumption); (case hs => assumption); (case hf => assumption); (case d1 => walk_at "mine room"); (case d2 => walk_at "mine room"); k_whole); intro h' tk' T' tT' o' o0' F' N' D' hdesc; (try dsimp only at N'); (try k_sweep); (try k_fold)))
  k_with "call ref" => row_timed "fresh" ((k_here; (with_reducible show wpAny _ _ (call (Value.ref 100) [Value.str _ _]) _ _ _); k_dflt (refine' read_call ?k1 ?k2 ?k3 ?k4 ?k5 ?kk ?d1 ?d2 ?hd ?hc ?hm ?hf ?_; (case k1 => k_asm); (case k2 => k_asm); (case k3 => k_asm); (case k4 => k_asm); (case k5 => k_asm); (case kk => exact rfl); (case hd => assumption); (case hc => assumption); (case hm => exact mt_cases (by assumption)); (case hf => assumption); (case d1 => walk_at "mine room"); (case d2 => walk_at "mine room"); k_whole); intro h' tk' xs ds ods mvs Ts F' N' hS hms hTs of ox nxd; (have hTe := tx_of hTs; subst hTe; clear hTs); (try simp only [LCg.Off1, and_true] at of ox); (try dsimp only at N'); (try k_sweep); (try k_fold)))
  k_with "call ref" => row_timed "fresh" ((k_here; (with_reducible show wpAny _ _ (call (Value.ref 221) [Value.ref _]) _ _ _); k_dflt (refine' items_call ?k1 ?k2 ?k3 ?k4 ?k5 ?kk ?mx ?md ?hS ?ne ?hm ?hf ?d1 ?d2 ?_; (case k1 => k_asm); (case k2 => k_asm); (case k3 => k_asm); (case k4 => k_asm); (case k5 => k_asm); (case kk => exact rfl); (case mx => k_mem); (case md => k_mem); (case hS => assumption); (case ne => assumption); (case hm => assumption); (case hf => exact fc_len (by assumption)); (case d1 => walk_at "mine room"); (case d2 => walk_at "mine room"); k_whole); intro h' tk' ti asi F' N' hR; (try dsimp only at N'); (try k_sweep); (try k_fold)))
  k_with "call ref" => row_timed "fresh" ((k_here; (with_reducible show wpAny _ _ (call (Value.ref 107) [Value.ref _]) _ _ _); k_dflt (refine' show_call ?k1 ?k2 ?k3 ?k4 ?k5 ?kk ?mx ?md ?hS ?ne ?hm ?hc ?hf ?d1 ?d2 ?_; (case k1 => k_asm); (case k2 => k_asm); (case k3 => k_asm); (case k4 => k_asm); (case k5 => k_asm); (case kk => exact rfl); (case mx => k_mem); (case md => k_mem); (case hS => assumption); (case ne => assumption); (case hm => assumption); (case hc => assumption); (case hf => assumption); (case d1 => walk_at "mine room"); (case d2 => walk_at "mine room"); k_whole); intro h' tk' T' tT' F' N' hdesc; (try dsimp only at N'); (try k_sweep); (try k_fold)))
  k_with "call ref" => row_timed "fresh" ((k_here; (with_reducible show wpAny _ _ (call (Value.ref 114) [Value.ref _, Value.ref _]) _ _ _); k_dflt (refine' same_call ?k1 ?k2 ?k3 ?k4 ?k5 ?kk ?mx ?md ?mx2 ?md2 ?hS ?hS2 ?n1 ?n2 ?n3 ?n4 ?n5 ?n6 ?hm ?hm2 ?d1 ?d2 ?_; (case k1 => k_asm); (case k2 => k_asm); (case k3 => k_asm); (case k4 => k_asm); (case k5 => k_asm); (case kk => exact rfl); (case mx => k_mem); (case md => k_mem); (case mx2 => k_mem); (case md2 => k_mem); (case hS => assumption); (case hS2 => assumption); (case n1 => k_ne); (case n2 => k_ne); (case n3 => k_ne); (case n4 => k_ne); (case n5 => k_ne); (case n6 => k_ne); (case hm => assumption); (case hm2 => assumption); (case d1 => walk_at "mine room"); (case d2 => walk_at "mine room"); k_whole); intro h' tk' F' N'; (try dsimp only at N'); (try k_sweep); (try k_fold)))
  k_with "call ref" => row_timed "fresh" ((k_here; (with_reducible show wpAny _ _ (call (Value.ref 62) [Value.ref _, Value.str _ _]) _ _ _); k_dflt (refine' has_call ?k1 ?k2 ?k3 ?k4 ?k5 ?kk ?mx ?md ?hS ?ne ?d1 ?d2 ?_; (case k1 => k_asm); (case k2 => k_asm); (case k3 => k_asm); (case k4 => k_asm); (case k5 => k_asm); (case kk => exact rfl); (case mx => k_mem); (case md => k_mem); (case hS => exact ⟨_, _, _, _, _, rfl⟩); (case ne => assumption); (case d1 => walk_at "mine room"); (case d2 => walk_at "mine room"); k_whole); intro h' tk' F' N'; (try dsimp only at N'); (try k_sweep); (try k_fold)))
  k_with "compareOp NotEq ref ref" => row_timed "fresh" ((k_here; k_dflt (refine' items_ne ?ra ?hx ?hf ?hc ?hm ?hs ?hff ?hu ?_; (case ra => assumption); (case hx => exact News.get (by k_asm) (by k_mem)); (case hf => exact News.get (by k_asm) (by k_mem)); (case hc => assumption); (case hm => assumption); (case hs => assumption); (case hff => assumption); (case hu => walk_at "mine room"))))
  k_with "compareOp NotEq ref ref" => row_timed "fresh" ((k_here; k_dflt (refine' bools_ne ?ha ?hb ?k1 ?k2 ?hu ?_; (case ha => exact News.get (by k_asm) (by k_mem)); (case hb => exact News.get (by k_asm) (by k_mem)); (case k1 => assumption); (case k2 => assumption); (case hu => walk_at "mine room"))))
  k_with "compareOp In str ref" => row_timed "fresh" ((k_here; (with_reducible show wpAny _ _ (compareOp CmpOp.In (Value.str _ _) (Value.ref _)) _ _ _); k_dflt (refine' in_sg ?ha ?hs ?_; (case ha => exact News.get (by k_asm) (by k_mem)); (case hs => assumption))))
  k_with "compareOp In str str" => row_timed "fresh" ((k_here; (with_reducible refine in_sign ?_)))
  k_with "setItem ref int" => row_timed "fresh" ((k_here; k_dflt (refine' kda_set (knd := PySem.intKind _ _) ?F ?N ?U ?d (intKind_is _ _ _ _) ?z ?_; (case F => k_asm); (case N => k_asm); (case U => k_updF); (case d => with_reducible assumption); (case z => walk_at "dict small")); intro h' o' F' N' hd'; (try dsimp only at N')))
  k_with "dict small" => row_timed "fresh" ((rw [sizeLine_eq]; omega))
  k_with "exec For Name Name cons nil" => row_timed "fresh" ((k_here; (rename Fr _ _ _ _ => lF'); (with_unfolding_all refine' For_invVF lF' ?k1 ?k2 ?_; (case k1 => exact rfl); (case k2 => exact rfl); k_whole)))
  k_with "pyIter str" => row_timed "fresh" (((with_reducible show wpAny _ _ (pyIter (Value.str _ _)) (fun it s₂ => LoopAtV _ _ _ _ _ _ _ _ _ it s₂) _ _); k_here; k_strUnr))
  k_with "off3" => row_timed "fresh" ((simp only [List.map_cons, List.map_nil, List.mem_cons, List.not_mem_nil, or_false, not_or]; exact ⟨neN (by omega), neN (by omega), neN (by omega)⟩))
  trivial
theorem small_st {kvs : List (Int × Value)} {k : Int} {v : Value} {n : Nat} (h : kvs.length + 1 ≤ n) : (stored kvs k v).length ≤ n := Nat.le_trans stored_len h
theorem small_st2 {kvs : List (Int × Value)} {k : Int} {v : Value} {n : Nat} (h : kvs.length + 2 ≤ n) : (stored kvs k v).length + 1 ≤ n := Nat.le_trans (Nat.add_le_add_right stored_len 1) h
theorem ln205 : True := by
  k_with "dict small" => row_timed "fresh" ((rw [sizeLine_eq]; (try refine small_st ?_); (try refine small_st2 ?_); omega))
  trivial
theorem ord_y : (((Str.ofString "y").cps.getD 0 0 : Nat) : Int) = 121 := by decide +kernel
theorem ord_z : (((Str.ofString "z").cps.getD 0 0 : Nat) : Int) = 122 := by decide +kernel
theorem ord_b : (((Str.ofString "{").cps.getD 0 0 : Nat) : Int) = 123 := by decide +kernel
set_option maxHeartbeats 4000000 in
theorem all_spec {prog : Program} {w : World} {p : Program} {loose : List Str} {mean : ExcName → Option Value} {mg mb : Str → Option Value} {dp un : Nat} {gd : Option (List Code)} {l : List Env} {s : Shared} {a e r : Addr} {oe orr : Obj} {pv : Value} {kvs : List (Int × Value)} {c : Nat} {mv0 : Value} {mt : Option Int} {fl : List Nat} {Tx : Str} {tt tx0 : Tok} {Q E : Value → Shared → Prop}
    (H : Here (hd.heap_1 w.params) p loose mean mg mb (cx dp un gd l) l [a, e, r] s.heap) (ha : s.heap.get? a = some (instObj 181 e)) (he : s.heap.get? e = some oe) (hr : s.heap.get? r = some orr) (hT : TabD w.params oe pv r) (hd' : orr.IsDictOf (PySem.intKind prog w) kvs) (n1 : a ≠ e) (n2 : a ≠ r) (n3 : e ≠ r) (hds : Desc c mt fl Tx.cps.toList) (hc : c ∈ KC) (hm : MtIs mv0 mt) (hf : fl.Sublist FC) (hl : kvs.length < 10000) (hdp : dp + 100 < 1000) (hun : un + 500 < 9900)
    (ret : ∀ h' tk orr' x d od mv T', Keep [r] s.heap h' → h'.get? r = some orr' → orr'.IsDictOf (PySem.intKind prog w) (stored (stored (stored kvs 121 (.ref x)) 122 (.ref x)) 123 (.ref x)) → h'.get? x = some (instObj 86 d) → h'.get? d = some od → SynD w.params od (sg c) mv T' → MtIs mv mt → T'.cps.toList = fl → s.heap.get? x = none → s.heap.get? d = none → (@Ne Nat x d) → Q .none { s with heap := h', toks := tk }) :
    wpAny (model prog w) (cx dp un gd l) (call (.ref 143) [.ref a, .str (Str.ofString "yz{") tx0, .str Tx tt]) Q E s := by
  obtain ⟨u1, u2, rfl⟩ := hT
  refine wpAny_call ?_
  k_dflt (refine' enter (K := hd.heap_1 w.params) (p := p) (loose := loose) (mean := mean) (mg := mg) (mb := mb) (l := l) (binds := [((PySem.Str.ofString "self"), .ref a), ((PySem.Str.ofString "text"), .str (Str.ofString "yz{") tx0), ((PySem.Str.ofString "description"), .str Tx tt)]) (D := [(a, instObj 181 e), (e, _), (r, orr)]) ?H ?ND ?ho ?hcd ?hroom ?hbind ?hloc ?_ ?c2 ?c3 ?c4 ?c5; (case H => exact H); (case ho => k_is); (case hcd => k_is); (case hroom => (show dp < 1000; omega)); (case hbind => exact BindsTo.of_eq rfl); (case hloc => exact locs rfl); (case c2 => exact rfl); (case c3 => exact rfl); (case c4 => exact rfl); (case c5 => decide); k_whole)
  case ND => 
    intro q hq
    simp only [List.mem_cons, List.not_mem_nil, or_false] at hq
    rcases hq with rfl | rfl | rfl
    · exact ha
    · exact he
    · exact hr
  intro base g L' h₁ keep F' N' B' X' T' lt' sz'
  k_lt lt'
  (try dsimp only)
  try k_fold
  replace n1 := neN n1
  replace n2 := neN n2
  replace n3 := neN n3
  k_steps
  (rename Fr _ _ _ _ => FF; rename News _ _ _ _ => NN; rename Obj.IsDictOf _ _ _ => hdn; rename SynD _ _ _ _ _ => hS; rename MtIs _ mt => hm2; rename (@Ne Nat _ _) => nxd)
  rw [ord_y, ord_z, ord_b] at hdn
  exact ret _ _ _ _ _ _ _ _ (Keep.drop (Keep.drop (fun b o e n => FF.keep b o (keep b o e n)) ha (NN.get (by k_mem))) he (NN.get (by k_mem))) (NN.get (by k_mem)) hdn (NN.get (by k_mem)) (NN.get (by k_mem)) hS hm2 (by simp) (fresh_of keep (News.new NN (by k_mem)) (by walk_at "off3")) (fresh_of keep (News.new NN (by k_mem)) (by walk_at "off3")) nxd
end Mine
end

/- DeedB -/
section
open PySem PySem.W PySem.Calls PyProof.Rows
theorem Mine.restDeedB {prog : Program} {w : World} {A : Around} {env : Env} {Q : Flow → Shared → Prop} {E : Value → Shared → Prop} {s : Shared} (h : ∀ f s', Q f s') : wpAny (model prog w) A (execs [] env) Q E s := by
  k_with_none
  w_top off
  walk1
  exact h _ _
end
section
open PySem PySem.W PySem.Calls PyProof.Rows
namespace Mine

theorem back1 {h₀ h h' : Heap} {L r : Addr} {m : Str → Option Value} {news : List (Addr × Obj)} {o o' : Obj} {f : Obj → List (Addr × Obj)} (F : Fr h₀ L h m) (N : News h₀ L h news) (U : UpdF r o news f) (k : Keep [r] h h') (e1 : h'.get? r = some o') : Fr h₀ L h' m ∧ News h₀ L h' (f o') := by
  obtain ⟨pre, post, en, ef, a, b⟩ := U.split
  have q1 := N (r, o) (by rw [en]; exact List.mem_append.mpr (.inr (.head _)))
  refine ⟨k.fr F (by simpa using Ne.symm q1.2.1) (fun x hx => by rw [List.mem_singleton.mp hx]; exact q1.2.2), fun q hq => ?_⟩
  have away : q ∈ news → q.1 ≠ r → h'.get? q.1 = some q.2 ∧ q.1 ≠ L ∧ h₀.get? q.1 = none := fun hm hd => ⟨k _ _ (N q hm).1 (by simpa using hd), (N q hm).2⟩
  rw [ef] at hq
  rcases List.mem_append.mp hq with h1 | h1
  · exact away (by rw [en]; exact List.mem_append_left _ h1) (a q h1)
  · rcases List.mem_cons.mp h1 with rfl | h2
    · exact ⟨e1, q1.2⟩
    · exact away (by rw [en]; exact List.mem_append_right _ (.tail _ h2)) (b q h2)
theorem upd_mem {r : Addr} {o : Obj} {news : List (Addr × Obj)} {f : Obj → List (Addr × Obj)} (U : UpdF r o news f) : (r, o) ∈ news := by
  obtain ⟨pre, post, en, _⟩ := U.split
  rw [en]; exact List.mem_append.mpr (.inr (.head _))
section
variable {prog : Program} {w : World} {p : Program} {loose : List Str} {mean : ExcName → Option Value} {mg mb : Str → Option Value} {dp un : Nat} {gd : Option (List Code)} {s : Shared} {cn : Str} {cs : Scope} {L a0 : Addr} {ccd : Value} {cl : List (Str × Addr)} {outer : List Env} {A₀ : Around} {base h₀ : Heap} {m : Str → Option Value} {news : List (Addr × Obj)}
theorem range_call {a e r x : Addr} {oe orr : Obj} {pv : Value} {kvs : List (Int × Value)} {c d : Int} {t1 t2 : Tok} {f : Obj → List (Addr × Obj)} {Q E : Value → Shared → Prop}
    (B : Below A₀ base outer h₀) (F : Fr h₀ L s.heap m) (X : (hd.heap_1 w.params).In h₀) (N : News h₀ L s.heap news) (TP : Top p loose mean mg mb h₀) (hk : cs.kind = .function) (ma : (a, instObj 181 e) ∈ news) (me : (e, oe) ∈ news) (U : UpdF r orr news f) (hT : TabD w.params oe pv r) (hd' : orr.IsDictOf (PySem.intKind prog w) kvs) (n3 : e ≠ r) (hc : 0 ≤ c ∧ c < 1000) (hd0 : 0 ≤ d) (hd1 : d < 100) (hl : kvs.length < 10000) (hdp : dp + 110 < 1000) (hun : un + 600 < 9900)
    (ret : ∀ h' tk orr', Fr h₀ L h' m → News h₀ L h' (f orr') → orr'.IsDictOf (PySem.intKind prog w) (storeRun kvs c (.ref x) (d.toNat + 1)) → Q .none { s with heap := h', toks := tk }) :
    wpAny (model prog w) (ktrTop dp un gd cn cs L a0 ccd cl outer) (call (.ref 150) [.ref a, .int c t1, .int (c + d) t2, .ref x]) Q E s := by
  obtain ⟨n, rfl⟩ := Int.eq_ofNat_of_zero_le hd0
  have mr := upd_mem U
  have g1 := (N _ ma).1
  have g2 := (N _ me).1
  have g3 := (N _ mr).1
  exact range_spec (H := Here.of (D := [(a, instObj 181 e), (e, oe), (r, orr)]) (A := ktrTop dp un gd cn cs L a0 ccd cl outer) B F X (News.one N ma (News.one N me (News.one N mr News.none))) TP rfl rfl hk) g1 g2 g3 hT hd' (inst_ne_dict g1 g2 (tab_data hT)) (inst_ne_dict g1 g3 (isDict_data hd')) n3 hc (by omega) hl (by omega) (by omega) fun h' tk orr' k e1 hd2 =>
    ret h' tk orr' (back1 F N U k e1).1 (back1 F N U k e1).2 hd2
theorem all_call {a e r : Addr} {oe orr : Obj} {pv : Value} {kvs : List (Int × Value)} {c : Nat} {mv0 : Value} {mt : Option Int} {fl : List Nat} {Tx : Str} {tt tx0 : Tok} {f : Obj → List (Addr × Obj)} {Q E : Value → Shared → Prop}
    (B : Below A₀ base outer h₀) (F : Fr h₀ L s.heap m) (X : (hd.heap_1 w.params).In h₀) (N : News h₀ L s.heap news) (TP : Top p loose mean mg mb h₀) (hk : cs.kind = .function) (ma : (a, instObj 181 e) ∈ news) (me : (e, oe) ∈ news) (U : UpdF r orr news f) (hT : TabD w.params oe pv r) (hd' : orr.IsDictOf (PySem.intKind prog w) kvs) (n3 : e ≠ r) (hds : Desc c mt fl Tx.cps.toList) (hc : c ∈ KC) (hm : MtIs mv0 mt) (hf : fl.Sublist FC) (hl : kvs.length < 10000) (hdp : dp + 110 < 1000) (hun : un + 600 < 9900)
    (ret : ∀ h' tk orr' x d od mv T', Fr h₀ L h' m → News h₀ L h' ((x, instObj 86 d) :: (d, od) :: f orr') → orr'.IsDictOf (PySem.intKind prog w) (stored (stored (stored kvs 121 (.ref x)) 122 (.ref x)) 123 (.ref x)) → SynD w.params od (sg c) mv T' → MtIs mv mt → T'.cps.toList = fl → LCg.Off1 d news → LCg.Off1 x news → (@Ne Nat x d) → Q .none { s with heap := h', toks := tk }) :
    wpAny (model prog w) (ktrTop dp un gd cn cs L a0 ccd cl outer) (call (.ref 143) [.ref a, .str (Str.ofString "yz{") tx0, .str Tx tt]) Q E s := by
  have mr := upd_mem U
  have g1 := (N _ ma).1
  have g2 := (N _ me).1
  have g3 := (N _ mr).1
  exact all_spec (H := Here.of (D := [(a, instObj 181 e), (e, oe), (r, orr)]) (A := ktrTop dp un gd cn cs L a0 ccd cl outer) B F X (News.one N ma (News.one N me (News.one N mr News.none))) TP rfl rfl hk) g1 g2 g3 hT hd' (inst_ne_dict g1 g2 (tab_data hT)) (inst_ne_dict g1 g3 (isDict_data hd')) n3 hds hc hm hf hl (by omega) (by omega) fun h' tk orr' x d od mv T' k e1 hd2 gx gd hS hm2 hT2 nx nd ne =>
    ret h' tk orr' x d od mv T' (back1 F N U k e1).1 (join F (join F (back1 F N U k e1).2 nd gd) nx gx) hd2 hS hm2 hT2 (off_of N nd) (off_of N nx) ne
theorem copy_call {a e r : Addr} {oe orr : Obj} {pv : Value} {kvs : List (Int × Value)} {Q E : Value → Shared → Prop}
    (B : Below A₀ base outer h₀) (F : Fr h₀ L s.heap m) (X : (hd.heap_1 w.params).In h₀) (N : News h₀ L s.heap news) (TP : Top p loose mean mg mb h₀) (hk : cs.kind = .function) (ma : (a, instObj 181 e) ∈ news) (me : (e, oe) ∈ news) (mr : (r, orr) ∈ news) (hT : TabD w.params oe pv r) (hd' : orr.IsDictOf (PySem.intKind prog w) kvs) (lo : (r == sysModules) = false) (n3 : e ≠ r) (hpv : pv = .none ∨ ∃ b, pv = .ref b) (hl : kvs.length < 10000) (hdp : dp + 110 < 1000) (hun : un + 600 < 9900)
    (ret : ∀ h' tk a2 e2 oe2 r2 or2, Fr h₀ L h' m → News h₀ L h' ((a2, instObj 181 e2) :: (e2, oe2) :: (r2, or2) :: news) → TabD w.params oe2 pv r2 → or2.IsDictOf (PySem.intKind prog w) kvs → (r2 == sysModules) = false → LCg.Off1 a2 news → LCg.Off1 e2 news → LCg.Off1 r2 news → s.heap.get? a2 = none → s.heap.get? e2 = none → s.heap.get? r2 = none → Q (.ref a2) { s with heap := h', toks := tk }) :
    wpAny (model prog w) (ktrTop dp un gd cn cs L a0 ccd cl outer) (call (.ref 178) [.ref a]) Q E s := by
  have g1 := (N _ ma).1
  have g2 := (N _ me).1
  have g3 := (N _ mr).1
  exact copy_spec (H := Here.of (D := [(a, instObj 181 e), (e, oe), (r, orr)]) (A := ktrTop dp un gd cn cs L a0 ccd cl outer) B F X (News.one N ma (News.one N me (News.one N mr News.none))) TP rfl rfl hk) g1 g2 g3 hT hd' lo (inst_ne_dict g1 g2 (tab_data hT)) (inst_ne_dict g1 g3 (isDict_data hd')) n3 hpv hl (by omega) (by omega) fun h' tk a2 e2 oe2 r2 or2 k y1 y2 hT2 y3 hd2 lo2 z1 z2 z3 ne =>
    ret h' tk a2 e2 oe2 r2 or2 (back0 F N k).1 (join F (join F (join F (back0 F N k).2 z3 y3) z2 y2) z1 y1) hT2 hd2 lo2 (off_of N z1) (off_of N z2) (off_of N z3) z1 z2 z3
end
theorem at_is64 : Str.ofString "@" = sg 64 := by decide +kernel
theorem parV_cases (ts : List TabRec) (o : Option Nat) : parV ts o = .none ∨ ∃ b, parV ts o = .ref b := by
  unfold parV
  split
  · exact .inl rfl
  · split
    · exact .inr ⟨_, rfl⟩
    · exact .inl rfl
theorem synd_at {P : Params} {o : Obj} {t1 t2 t3 u1 u3 : Tok} {mv : Value} {f : Str} (h : o = dictOf [{ hash := PyData.keyHash P (Str.ofString "kind"), key := .str (Str.ofString "kind") t1, val := .str (Str.ofString "@") u1 }, { hash := PyData.keyHash P (Str.ofString "match"), key := .str (Str.ofString "match") t2, val := mv }, { hash := PyData.keyHash P (Str.ofString "flags"), key := .str (Str.ofString "flags") t3, val := .str f u3 }] 3) : SynD P o (sg 64) mv f := ⟨t1, t2, t3, u1, u3, at_is64 ▸ h⟩
theorem rel_run {P : Params} {h : Heap} {M : List Addr} {U : Addr → Prop} {kvs kks : List (Int × Value)} {v kv : Value} (R : ∀ code, RelV P h M U (valueAt kvs code) (valueAt kks code)) (r : RelV P h M U (some v) (some kv)) (c : Int) : ∀ n, ∀ code, RelV P h M U (valueAt (storeRun kvs c v n) code) (valueAt (storeRun kks c kv n) code)
  | 0 => R
  | n + 1 => rel_stored (rel_run R r c n) r _
end Mine
end

/- DeedC -/
section
open PySem PySem.W PySem.Calls PyProof.Rows
theorem Mine.restDeedC {prog : Program} {w : World} {A : Around} {env : Env} {Q : Flow → Shared → Prop} {E : Value → Shared → Prop} {s : Shared} (h : ∀ f s', Q f s') : wpAny (model prog w) A (execs [] env) Q E s := by
  k_with_none
  w_top off
  walk1
  exact h _ _
end
section
open PySem PySem.W PySem.Calls PyProof.Rows
namespace Mine
theorem News.front {h₀ h : Heap} {L : Addr} {n : List (Addr × Obj)} {q : Addr × Obj} (N : News h₀ L h n) (e : q ∈ n) : News h₀ L h (q :: n.dropLast) := News.one N e (News.sub N fun p hp => List.dropLast_subset _ hp)
theorem with_all {h₀ h : Heap} {L : Addr} {r : List (Addr × Obj)} {q : Addr × Obj} {P : Prop} (_ : News h₀ L h (q :: r)) (h1 : ∀ p ∈ r, p.1 ≠ q.1) (h2 : (∀ p ∈ r, p.1 ≠ q.1) → P) : P := h2 h1
theorem all_ne_cons {a d : Addr} {o : Obj} {r : List (Addr × Obj)} (h : @Ne Nat a d) (k : ∀ p ∈ r, p.1 ≠ d) : ∀ p ∈ (a, o) :: r, p.1 ≠ d := fun p hp => by
  rcases List.mem_cons.mp hp with rfl | hp
  · exact h
  · exact k p hp
theorem all_ne_nil {d : Addr} : ∀ p ∈ ([] : List (Addr × Obj)), p.1 ≠ d := fun p hp => by cases hp
theorem off_upd {I r : Addr} {o o' : Obj} {pre : List (Addr × Obj)} (h : ∀ p ∈ (r, o) :: pre, p.1 ≠ I) : ∀ p ∈ (r, o') :: pre, p.1 ≠ I := fun p hp => by
  rcases List.mem_cons.mp hp with rfl | hp
  · exact h (r, o) (.head _)
  · exact h p (.tail _ hp)
theorem len3 {kvs : List (Int × Value)} {a b c : Int} {x y z : Value} {n : Nat} (h : kvs.length ≤ n) : (stored (stored (stored kvs a x) b y) c z).length ≤ n + 5 :=
  Nat.le_trans stored_len (by have h1 := stored_len (kvs := stored kvs a x) (k := b) (v := y); have h2 := stored_len (kvs := kvs) (k := a) (v := x); omega)
theorem keep5 {h g2 h' : Heap} {dk d0 T KR PP a e r k : Addr} {oa oe or ok : Obj} (kin : ∀ b o, h.get? b = some o → b ∉ [dk, d0, T, KR, PP, a, e, r, k] → g2.get? b = some o) (kp : ∀ b o, g2.get? b = some o → h'.get? b = some o) (g1 : h.get? a = some oa) (g3 : h.get? e = some oe) (g4 : h.get? r = some or) (g5 : h.get? k = some ok)
    (e1 : h'.get? a = some oa) (e2 : h'.get? e = some oe) (e3 : h'.get? r = some or) (e4 : h'.get? k = some ok) : ∀ b o, h.get? b = some o → b ∉ [dk, d0, T, KR, PP] → h'.get? b = some o := by
  intro b o z n
  simp only [List.mem_cons, List.not_mem_nil, or_false, not_or] at n
  by_cases c1 : b = a
  · subst c1; rw [g1] at z; cases z; exact e1
  by_cases c2 : b = e
  · subst c2; rw [g3] at z; cases z; exact e2
  by_cases c3 : b = r
  · subst c3; rw [g4] at z; cases z; exact e3
  by_cases c4 : b = k
  · subst c4; rw [g5] at z; cases z; exact e4
  exact kp b o (kin b o z (by simp only [List.mem_cons, List.not_mem_nil, or_false, not_or]; exact ⟨n.1, n.2.1, n.2.2.1, n.2.2.2.1, n.2.2.2.2, c1, c2, c3, c4⟩))
def DRunJ (prog : Program) (w : World) (m0 : Str → Option Value) (xn : Str) (pre : List (Addr × Obj)) (r : Addr) (kvs : List (Int × Value)) (c : Int) (v : Value) (i : Nat) (m : Str → Option Value) (news : List (Addr × Obj)) : Prop :=
  ∃ orr vo, m = (fun y => if y = xn then vo else m0 y) ∧ news = (r, orr) :: pre ∧ orr.IsDictOf (PySem.intKind prog w) (storeRun kvs c v i)
theorem fresh9 {h g2 h2 : Heap} {D9 : List Addr} {L a : Addr} {news : List (Addr × Obj)} {o : Obj} (kin : ∀ b o, h.get? b = some o → b ∉ D9 → g2.get? b = some o) (N : News g2 L h2 news) (hm : (a, o) ∈ news) (hn : a ∉ D9) : h.get? a = none := by
  cases z : h.get? a with
  | none => rfl
  | some o' =>
    have := kin _ _ z hn
    rw [(N _ hm).2.2] at this
    cases this
theorem notin9 {x1 x2 x3 x4 x5 x6 x7 x8 x9 d x : Nat} (l : x1 < d ∧ x2 < d ∧ x3 < d ∧ x4 < d ∧ x5 < d ∧ x6 < d ∧ x7 < d ∧ x8 < d ∧ x9 < d) (h : d ≤ x) : x ∉ [x1, x2, x3, x4, x5, x6, x7, x8, x9] := by
  simp only [List.mem_cons, List.not_mem_nil, or_false, not_or]
  omega
theorem notin9b {x1 x2 x3 x4 x5 x6 x7 x8 x9 a : Addr} (h1 : x1 ≠ a) (h2 : x2 ≠ a) (h3 : x3 ≠ a) (h4 : x4 ≠ a) (h5 : x5 ≠ a) (h6 : x6 ≠ a) (h7 : x7 ≠ a) (h8 : x8 ≠ a) (h9 : x9 ≠ a) : a ∉ [x1, x2, x3, x4, x5, x6, x7, x8, x9] := by
  simp only [List.mem_cons, List.not_mem_nil, or_false, not_or]
  exact ⟨h1.symm, h2.symm, h3.symm, h4.symm, h5.symm, h6.symm, h7.symm, h8.symm, h9.symm⟩
theorem off1_of {a b : Addr} {o : Obj} {l : List (Addr × Obj)} (h : LCg.Off1 a l) (m : (b, o) ∈ l) : Box (@Ne Nat a b) := ⟨Ne.symm (off1_mem h _ m)⟩
section
variable {prog : Program} {w : World} {A : Around} {E : Value → Shared → Prop} {s : Shared} {h₀ : Heap} {L l : Addr} {m : Str → Option Value} {news : List (Addr × Obj)}
theorem append_U {us : List Value} {n : Nat} {v : Value} {f : Obj → List (Addr × Obj)} {Q : Value → Shared → Prop} (F : Fr h₀ L s.heap m) (N : News h₀ L s.heap news) (U : UpdF l (W.listOf us.toArray n) news f) (hl : us.length < 1000)
    (ret : ∀ h', Fr h₀ L h' m → News h₀ L h' (f (W.listOf (us ++ [v]).toArray (n + 1))) → Q .none { s with heap := h' }) : wpAny (model prog w) A (call (.builtin "list.append") [.ref l, v]) Q E s := by
  refine append_at (its := us.toArray) (n := n) (N _ (upd_mem U)).1 (fun h' hs ho' => ?_) (by rw [sizeLine_eq, List.size_toArray]; omega)
  have k : Keep [l] s.heap h' := fun b o z nb => by
    rw [hs.2 b (by simpa using nb)]; exact z
  have e : us.toArray.push v = (us ++ [v]).toArray := by simp
  rw [e] at ho'
  exact ret h' (back1 F N U k ho').1 (back1 F N U k ho').2
end
theorem parV_app {ts : List TabRec} {new : TabRec} : ∀ {p : Option Nat}, (∀ j, p = some j → j < ts.length) → parV (ts ++ [new]) p = parV ts p
  | .none, _ => rfl
  | .some j, h => by
    show (match (ts ++ [new])[j]? with | some t => Value.ref t.a | none => .none) = match ts[j]? with | some t => Value.ref t.a | none => .none
    rw [List.getElem?_append_left (h j rfl)]
theorem app_cases {α : Type} {l : List α} {x y : α} {i : Nat} (h : (l ++ [x])[i]? = some y) : l[i]? = some y ∨ i = l.length ∧ y = x := by
  by_cases c : i < l.length
  · rw [List.getElem?_append_left c] at h
    exact .inl h
  · rw [List.getElem?_append_right (Nat.le_of_not_lt c)] at h
    have z : i - l.length = 0 := by
      by_cases z : i - l.length = 0
      · exact z
      · rw [List.getElem?_eq_none (by simp; omega)] at h; cases h
    rw [z] at h
    exact .inr ⟨by omega, by simpa using h.symm⟩
section
variable {prog : Program} {w : World} {h h' : Heap} {dk d0 T KR PP : Addr} {ts : List TabRec} {bound : Nat} {U : Addr → Prop}
theorem Tabs.append (X : Tabs prog w h U dk d0 T KR PP ts bound) {i : Nat} {t : TabRec} {kvs kks : List (Int × Value)} (hi : ts[i]? = some t) (Ri : Rec1 prog w h [dk, d0, T, KR, PP] U ts bound i t kvs kks) (hl : ts.length < 5) (k : ∀ b o, h.get? b = some o → b ∉ [dk, d0, T, KR, PP] → h'.get? b = some o)
    {o' o0' oe or' ok' : Obj} {bound' n1 n2 n3 : Nat} {a e r kd : Addr} {ps : List Value} {pv : Value} (g1 : h'.get? dk = some o') (g2 : h'.get? d0 = some o0') (hD : Deck d0 o' o0')
    (gT : h'.get? T = some (W.listOf ((ts.map fun (t : TabRec) => Value.ref t.a) ++ [Value.ref a] : List Value).toArray n1)) (gK : h'.get? KR = some (W.listOf ((ts.map fun (t : TabRec) => Value.ref t.k) ++ [Value.ref kd] : List Value).toArray n2)) (gP : h'.get? PP = some (W.listOf (ps ++ [pv]).toArray n3))
    (pl : ps.length = ts.length) (pi : ∀ (i : Nat) (v : Value) (t : TabRec), ps[i]? = some v → ts[i]? = some t → PI v t.par) (hp : ps[i]? = some pv)
    (ga : h'.get? a = some (instObj 181 e)) (ge : h'.get? e = some oe) (hT : TabD w.params oe (parV ts t.par) r) (gr : h'.get? r = some or') (hr : or'.IsDictOf (PySem.intKind prog w) kvs) (gk : h'.get? kd = some ok') (hk : ok'.IsDictOf (PySem.intKind prog w) kks)
    (lo : (r == sysModules) = false) (lo2 : (kd == sysModules) = false) (aw : U a ∧ U e ∧ U r ∧ U kd) (fr : h.get? r = none) (fk : h.get? kd = none) (nrk : r ≠ kd) (hb : bound ≤ bound') : Tabs prog w h' U dk d0 T KR PP (ts ++ [⟨a, e, r, kd, t.par⟩]) bound' := by
  have ls := X.lists
  have hi0 : i < ts.length := (List.getElem?_eq_some_iff.mp hi).1
  have hX : Mut prog w h [dk, d0, T, KR, PP] [dk, d0, T, KR, PP] := fun b hb => .inl ⟨hb, ls b hb⟩
  have old : ∀ {b : Addr} {o : Obj}, h.get? b = some o → b ≠ r ∧ b ≠ kd := fun z => ⟨fun q => (by rw [q, fr] at z; cases z), fun q => (by rw [q, fk] at z; cases z)⟩
  have offD : ∀ {b : Addr} {o : Obj}, h.get? b = some o → (∃ es n, o.data = .dict es n) → b ∉ [dk, d0, T, KR, PP] := fun z q hm => by
    obtain ⟨vs, n, y⟩ := ls _ hm
    exact list_ne_dict y z q rfl
  have offI : ∀ {b C e : Addr}, h.get? b = some (instObj C e) → b ∉ [dk, d0, T, KR, PP] := fun z hm => by
    obtain ⟨vs, n, y⟩ := ls _ hm
    exact inst_ne_list z y rfl
  refine ⟨⟨n1, ?_⟩, ⟨n2, ?_⟩, ⟨n3, ps ++ [pv], gP, ?_, ?_⟩, fun j t' hj => ?_, fun i' j' t1 t2 h1 h2 => ?_, X.five, X.aw, ?_, ⟨_, _, g1, g2, hD⟩⟩
  · rw [gT]; simp
  · rw [gK]; simp
  · simp [pl]
  · intro j v t' hv ht
    rcases app_cases hv with h1 | ⟨h1, rfl⟩
    · rcases app_cases ht with h2 | ⟨h2, rfl⟩
      · exact pi j v t' h1 h2
      · have := (List.getElem?_eq_some_iff.mp h1).1
        omega
    · rcases app_cases ht with h2 | ⟨h2, rfl⟩
      · have := (List.getElem?_eq_some_iff.mp h2).1
        omega
      · exact pi i v t hp hi
  · rcases app_cases hj with h1 | ⟨h1, rfl⟩
    · obtain ⟨kvj, kkj, Rj⟩ := X.each j t' h1
      have hj0 : j < ts.length := (List.getElem?_eq_some_iff.mp h1).1
      obtain ⟨oe', ge', hT'⟩ := Rj.ge
      obtain ⟨orj, grj, hrj⟩ := Rj.gr
      obtain ⟨okj, gkj, hkj⟩ := Rj.gk
      refine ⟨kvj, kkj, Rj.par_lt, k _ _ Rj.ga (offI Rj.ga), ⟨oe', k _ _ ge' (offD ge' (tab_data hT')), ?_⟩, ⟨_, k _ _ grj (offD grj (isDict_data hrj)), hrj⟩, ⟨_, k _ _ gkj (offD gkj (isDict_data hkj)), hkj⟩, Rj.lo, Rj.lo2, Nat.le_trans Rj.len1 hb, Nat.le_trans Rj.len2 hb, Rj.aw, fun code => (Rj.rel code).keep hX k⟩
      rw [parV_app fun j' e => Nat.lt_trans (Rj.par_lt j' e) hj0]
      exact hT'
    · subst h1
      refine ⟨kvs, kks, fun j e => Nat.lt_trans (Ri.par_lt j e) hi0, ga, ⟨oe, ge, ?_⟩, ⟨_, gr, hr⟩, ⟨_, gk, hk⟩, lo, lo2, Nat.le_trans Ri.len1 hb, Nat.le_trans Ri.len2 hb, aw, fun code => (Ri.rel code).keep hX k⟩
      show TabD w.params oe (parV (ts ++ _) t.par) r
      rw [parV_app fun j' e => Nat.lt_trans (Ri.par_lt j' e) hi0]
      exact hT
  · rcases app_cases h1 with h1 | ⟨e1, rfl⟩
    · rcases app_cases h2 with h2 | ⟨e2, rfl⟩
      · exact X.nd i' j' t1 t2 h1 h2
      · obtain ⟨_, _, R1⟩ := X.each i' t1 h1
        obtain ⟨_, z1, _⟩ := R1.gr
        obtain ⟨_, z2, _⟩ := R1.gk
        exact ⟨fun _ => ⟨(old z1).1, (old z2).2⟩, (old z1).2⟩
    · rcases app_cases h2 with h2 | ⟨e2, rfl⟩
      · obtain ⟨_, _, R1⟩ := X.each j' t2 h2
        obtain ⟨_, z1, _⟩ := R1.gr
        obtain ⟨_, z2, _⟩ := R1.gk
        exact ⟨fun _ => ⟨Ne.symm (old z1).1, Ne.symm (old z2).2⟩, Ne.symm (old z2).1⟩
      · exact ⟨fun n => absurd (e1.trans e2.symm) n, nrk⟩
  · simp; omega
end
end Mine
end

/- Deed -/
section
open PySem PySem.W PySem.Calls PyProof.Rows
theorem Mine.restDeed {prog : Program} {w : World} {A : Around} {env : Env} {Q : Flow → Shared → Prop} {E : Value → Shared → Prop} {s : Shared} (h : ∀ f s', Q f s') : wpAny (model prog w) A (execs [] env) Q E s := by
  k_with_none
  w_top off
  walk1
  exact h _ _
end
section
open PySem PySem.W PySem.Calls PyProof.Rows
namespace Mine
theorem ln206 : True := by
  k_with "mine room" => row_timed "fresh" (((try simp only [depth_under_make, depth_under_kw, depth_in1, depth_deeper, units_in1, units_deeper]); (try dsimp only [cx, ktrTop]); (try simp only [cLine]); omega))
  trivial
local macro_rules | `(tactic| k_room) => `(tactic| ((try simp only [depth_under_make, depth_under_kw, depth_in1, depth_deeper]); (try dsimp only [cx, ktrTop]); (try dsimp only [recursionLimit]); omega))
local macro_rules | `(tactic| k_ne) => `(tactic| (refine neN ?_; (try dsimp only); first | with_reducible assumption | (with_reducible apply Ne.symm; with_reducible assumption)))
local macro_rules | `(tactic| k_ne) => `(tactic| (refine neN ?_; (try dsimp only); first | with_reducible exact Box.out (by assumption) | (with_reducible apply Ne.symm; with_reducible exact Box.out (by assumption))))
theorem ln207 : True := by
  k_with "call ref" => row_timed "fresh" ((k_here; (with_reducible show wpAny _ _ (call (Value.ref 197) [Value.ref _, Value.int _ _]) _ _ _); k_dflt (refine' draw_call ?k1 ?k2 ?k3 ?k4 ?k5 ?kk ?D ?ne ?U ?U2 ?d1 ?d2 ?m1 ?m2 ?_; (case k1 => k_asm); (case k2 => k_asm); (case k3 => k_asm); (case k4 => k_asm); (case k5 => k_asm); (case kk => exact rfl); (case D => with_reducible assumption); (case U => k_updF); (case U2 => (intro x9; (try dsimp only); k_updF)); (case ne => assumption); (case d1 => walk_at "mine room"); (case d2 => walk_at "mine room"); (case m1 => omega); (case m2 => omega); k_whole); intro h' tk' r' tr' o' o0' F' N' D' r0' r1'; (try dsimp only at N'); (try k_sweep); (try k_fold)))
  k_with "call ref" => row_timed "fresh" ((k_here; (with_reducible show wpAny _ _ (call (Value.ref 207) [Value.ref _]) _ _ _); k_dflt (refine' known_call ?k1 ?k2 ?k3 ?k4 ?k5 ?kk ?D ?ne ?U ?U2 ?d1 ?d2 ?_; (case k1 => k_asm); (case k2 => k_asm); (case k3 => k_asm); (case k4 => k_asm); (case k5 => k_asm); (case kk => exact rfl); (case D => with_reducible assumption); (case U => k_updF); (case U2 => (intro x9; (try dsimp only); k_updF)); (case ne => assumption); (case d1 => walk_at "mine room"); (case d2 => walk_at "mine room"); k_whole); intro h' tk' xk fk ck t1' mv' mt' ys' fl' o' o0' F' N' D' of ox nfx hck hmk hsk hfk; (try simp only [LCg.Off1, and_true] at of ox); (have hfl9 := fc_len hfk); (try dsimp only at N'); (try k_sweep); (try k_fold)))
  k_with "call ref" => row_timed "fresh" ((k_here; (with_reducible show wpAny _ _ (call (Value.ref 214) [Value.ref _, Value.ref _]) _ _ _); k_dflt (refine' text_call ?k1 ?k2 ?k3 ?k4 ?k5 ?kk ?D ?ne ?U ?U2 ?mx ?mf ?n1 ?n2 ?n3 ?n4 ?n5 ?hc ?hm ?hs ?hf ?d1 ?d2 ?_; (case k1 => k_asm); (case k2 => k_asm); (case k3 => k_asm); (case k4 => k_asm); (case k5 => k_asm); (case kk => exact rfl); (case D => with_reducible assumption); (case U => k_updF); (case U2 => (intro x9; (try dsimp only); k_updF)); (case ne => assumption); (case mx => k_mem); (case mf => k_mem); (case n1 => k_ne); (case n2 => k_ne); (case n3 => k_ne); (case n4 => k_ne); (case n5 => k_ne); (case hc => assumption); (case hm => assumption); (case hs => assumption); (case hf => assumption); (case d1 => walk_at "mine room"); (case d2 => walk_at "mine room"); k_whole); intro h' tk' T' tT' o' o0' F' N' D' hdesc; (try dsimp only at N'); (try k_sweep); (try k_fold)))
  k_with "call ref" => row_timed "fresh" ((k_here; (with_reducible show wpAny _ _ (call (Value.ref 100) [Value.str _ _]) _ _ _); k_dflt (refine' read_call ?k1 ?k2 ?k3 ?k4 ?k5 ?kk ?d1 ?d2 ?hd ?hc ?hm ?hf ?_; (case k1 => k_asm); (case k2 => k_asm); (case k3 => k_asm); (case k4 => k_asm); (case k5 => k_asm); (case kk => exact rfl); (case hd => assumption); (case hc => assumption); (case hm => exact mt_cases (by assumption)); (case hf => assumption); (case d1 => walk_at "mine room"); (case d2 => walk_at "mine room"); k_whole); intro h' tk' xs ds ods mvs Ts F' N' hS hms hTs of ox nxd; (have hTe := tx_of hTs; subst hTe; clear hTs); (try simp only [LCg.Off1, and_true] at of ox); (try dsimp only at N'); (try k_sweep); (try k_fold)))
  k_with "call ref" => row_timed "fresh" ((k_here; (with_reducible show wpAny _ _ (call (Value.ref 221) [Value.ref _]) _ _ _); k_dflt (refine' items_call ?k1 ?k2 ?k3 ?k4 ?k5 ?kk ?mx ?md ?hS ?ne ?hm ?hf ?d1 ?d2 ?_; (case k1 => k_asm); (case k2 => k_asm); (case k3 => k_asm); (case k4 => k_asm); (case k5 => k_asm); (case kk => exact rfl); (case mx => k_mem); (case md => k_mem); (case hS => assumption); (case ne => assumption); (case hm => assumption); (case hf => exact fc_len (by assumption)); (case d1 => walk_at "mine room"); (case d2 => walk_at "mine room"); k_whole); intro h' tk' ti asi F' N' hR; (try dsimp only at N'); (try k_sweep); (try k_fold)))
  k_with "call ref" => row_timed "fresh" ((k_here; (with_reducible show wpAny _ _ (call (Value.ref 107) [Value.ref _]) _ _ _); k_dflt (refine' show_call ?k1 ?k2 ?k3 ?k4 ?k5 ?kk ?mx ?md ?hS ?ne ?hm ?hc ?hf ?d1 ?d2 ?_; (case k1 => k_asm); (case k2 => k_asm); (case k3 => k_asm); (case k4 => k_asm); (case k5 => k_asm); (case kk => exact rfl); (case mx => k_mem); (case md => k_mem); (case hS => assumption); (case ne => assumption); (case hm => assumption); (case hc => assumption); (case hf => assumption); (case d1 => walk_at "mine room"); (case d2 => walk_at "mine room"); k_whole); intro h' tk' T' tT' F' N' hdesc; (try dsimp only at N'); (try k_sweep); (try k_fold)))
  k_with "call ref" => row_timed "fresh" ((k_here; (with_reducible show wpAny _ _ (call (Value.ref 114) [Value.ref _, Value.ref _]) _ _ _); k_dflt (refine' same_call ?k1 ?k2 ?k3 ?k4 ?k5 ?kk ?mx ?md ?mx2 ?md2 ?hS ?hS2 ?n1 ?n2 ?n3 ?n4 ?n5 ?n6 ?hm ?hm2 ?d1 ?d2 ?_; (case k1 => k_asm); (case k2 => k_asm); (case k3 => k_asm); (case k4 => k_asm); (case k5 => k_asm); (case kk => exact rfl); (case mx => k_mem); (case md => k_mem); (case mx2 => k_mem); (case md2 => k_mem); (case hS => assumption); (case hS2 => assumption); (case n1 => k_ne); (case n2 => k_ne); (case n3 => k_ne); (case n4 => k_ne); (case n5 => k_ne); (case n6 => k_ne); (case hm => assumption); (case hm2 => assumption); (case d1 => walk_at "mine room"); (case d2 => walk_at "mine room"); k_whole); intro h' tk' F' N'; (try dsimp only at N'); (try k_sweep); (try k_fold)))
  k_with "call ref" => row_timed "fresh" ((k_here; (with_reducible show wpAny _ _ (call (Value.ref 62) [Value.ref _, Value.str _ _]) _ _ _); k_dflt (refine' has_call ?k1 ?k2 ?k3 ?k4 ?k5 ?kk ?mx ?md ?hS ?ne ?d1 ?d2 ?_; (case k1 => k_asm); (case k2 => k_asm); (case k3 => k_asm); (case k4 => k_asm); (case k5 => k_asm); (case kk => exact rfl); (case mx => k_mem); (case md => k_mem); (case hS => exact ⟨_, _, _, _, _, rfl⟩); (case ne => assumption); (case d1 => walk_at "mine room"); (case d2 => walk_at "mine room"); k_whole); intro h' tk' F' N'; (try dsimp only at N'); (try k_sweep); (try k_fold)))
  k_with "compareOp NotEq ref ref" => row_timed "fresh" ((k_here; k_dflt (refine' items_ne ?ra ?hx ?hf ?hc ?hm ?hs ?hff ?hu ?_; (case ra => assumption); (case hx => exact News.get (by k_asm) (by k_mem)); (case hf => exact News.get (by k_asm) (by k_mem)); (case hc => assumption); (case hm => assumption); (case hs => assumption); (case hff => assumption); (case hu => walk_at "mine room"))))
  k_with "compareOp NotEq ref ref" => row_timed "fresh" ((k_here; k_dflt (refine' bools_ne ?ha ?hb ?k1 ?k2 ?hu ?_; (case ha => exact News.get (by k_asm) (by k_mem)); (case hb => exact News.get (by k_asm) (by k_mem)); (case k1 => assumption); (case k2 => assumption); (case hu => walk_at "mine room"))))
  k_with "compareOp In str ref" => row_timed "fresh" ((k_here; (with_reducible show wpAny _ _ (compareOp CmpOp.In (Value.str _ _) (Value.ref _)) _ _ _); k_dflt (refine' in_sg ?ha ?hs ?_; (case ha => exact News.get (by k_asm) (by k_mem)); (case hs => assumption))))
  k_with "compareOp In str str" => row_timed "fresh" ((k_here; (with_reducible refine in_sign ?_)))
  k_with "sgs" => row_timed "fresh" (first | with_reducible assumption | (refine' Sg.append ?sa ?sb; (case sa => walk_at "sgs"); (case sb => walk_at "sgs")) | (refine' Sg.reverse ?sa; (case sa => walk_at "sgs")) | (refine' Sg.take ?sa _; (case sa => walk_at "sgs")) | exact Sg.nil)
  k_with "plainlen" => row_timed "fresh" (((try simp only [List.length_append, List.length_reverse, List.length_take]); omega))
  k_with "call builtin:str.join" => row_timed "fresh" ((k_here; (with_reducible show wpAny _ _ (call (Value.builtin "str.join") [Value.str _ _, Value.ref _]) _ _ _); k_dflt (refine' sg_join ?a ?s ?z ?_; (case a => exact News.get (by k_asm) (by k_mem)); (case s => walk_at "sgs"); (case z => walk_at "plainlen")); intro t' k' T' hT'))
  k_with "setItem ref int" => row_timed "fresh" ((k_here; k_dflt (refine' kda_set (knd := PySem.intKind _ _) ?F ?N ?U ?d (intKind_is _ _ _ _) ?z ?_; (case F => k_asm); (case N => k_asm); (case U => k_updF); (case d => with_reducible assumption); (case z => walk_at "dict small")); intro h' o' F' N' hd'; (try dsimp only at N')))
  k_with "dict small" => row_timed "fresh" ((rw [sizeLine_eq]; omega))
  k_with "subscriptTail Name Name ref int" => row_timed "fresh" ((k_here; (with_reducible show wpAny _ _ (subscriptTail _ _ (Value.ref _) (Value.int _ _)) _ _ _); k_dflt (refine' at_list ?N ?m ?v ?i ?_ ?hs; (case N => k_asm); (case m => k_mem); (case v => with_reducible assumption); (case i => with_reducible assumption); (case hs => with_unfolding_all rfl))))
  k_with "subscriptTail" => row_timed "fresh" ((k_here; (with_reducible show wpAny _ _ (subscriptTail _ _ (Value.ref _) (Value.int _ _)) _ _ _); k_dflt (refine' at_list ?N ?m ?v ?i ?_ ?hs; (case N => k_asm); (case m => k_mem); (case v => with_reducible assumption); (case i => with_reducible assumption); (case hs => with_unfolding_all rfl))))
  k_with "call ref" => row_timed "fresh" ((k_here; (with_reducible show wpAny _ _ (call (Value.ref 150) [Value.ref _, Value.int _ _, Value.int _ _, Value.ref _]) _ _ _); k_dflt (refine' range_call ?k1 ?k2 ?k3 ?k4 ?k5 ?kk ?ma ?me ?U ?hT ?hd ?n3 ?hc ?e0 ?e1 ?hl ?d1 ?d2 ?_; (case k1 => k_asm); (case k2 => k_asm); (case k3 => k_asm); (case k4 => k_asm); (case k5 => k_asm); (case kk => exact rfl); (case ma => k_mem); (case me => k_mem); (case hT => exact ⟨_, _, rfl⟩); (case U => k_updF); (case hd => with_reducible assumption); (case n3 => first | k_ne | exact Ne.symm (Box.out (by assumption))); (case hc => (constructor <;> omega)); (case e0 => omega); (case e1 => omega); (case hl => omega); (case d1 => walk_at "mine room"); (case d2 => walk_at "mine room"); k_whole); intro h' tk' orr' F' N' hd2'; (try dsimp only at N'); (try k_sweep); (try k_fold)))
  k_with "call ref" => row_timed "fresh" ((k_here; (with_reducible show wpAny _ _ (call (Value.ref 143) [Value.ref _, Value.str _ _, Value.str _ _]) _ _ _); k_dflt (refine' all_call ?k1 ?k2 ?k3 ?k4 ?k5 ?kk ?ma ?me ?U ?hT ?hd ?n3 ?hds ?hc ?hm ?hf ?hl ?d1 ?d2 ?_; (case k1 => k_asm); (case k2 => k_asm); (case k3 => k_asm); (case k4 => k_asm); (case k5 => k_asm); (case kk => exact rfl); (case ma => k_mem); (case me => k_mem); (case hT => exact ⟨_, _, rfl⟩); (case U => k_updF); (case hd => with_reducible assumption); (case n3 => first | k_ne | exact Ne.symm (Box.out (by assumption))); (case hds => assumption); (case hc => assumption); (case hm => assumption); (case hf => assumption); (case hl => omega); (case d1 => walk_at "mine room"); (case d2 => walk_at "mine room"); k_whole); intro h' tk' orr' xs ds ods mvs Ts F' N' hd2' hSs hms hTs of ox nxd; (try simp only [LCg.Off1, and_true] at of ox); (try dsimp only at N'); (try k_sweep); (try k_fold)))
  k_with "call ref" => row_timed "fresh" (((show wpAny _ _ (call (Value.ref 178) [Value.ref _]) _ _ _); k_here; k_dflt (refine' copy_call ?k1 ?k2 ?k3 ?k4 ?k5 ?kk ?ma ?me ?mr ?hT ?hd ?lo ?n3 ?hpv ?hl ?d1 ?d2 ?_; (case k1 => k_asm); (case k2 => k_asm); (case k3 => k_asm); (case k4 => k_asm); (case k5 => k_asm); (case kk => exact rfl); (case ma => k_mem); (case me => k_mem); (case hT => exact ⟨_, _, rfl⟩); (case mr => k_mem); (case hd => with_reducible assumption); (case lo => with_reducible assumption); (case n3 => first | k_ne | exact Ne.symm (Box.out (by assumption))); (case hpv => assumption); (case hl => omega); (case d1 => walk_at "mine room"); (case d2 => walk_at "mine room"); k_whole); intro h' tk' a2 e2 oe2 r2 or2 F' N' hT2' hd2' lo2' oa2 oe2' or2' za2 ze2 zr2; (try simp only [LCg.Off1, and_true] at oa2 oe2' or2'); (try dsimp only at N'); (try k_sweep); (try k_fold)))
  k_with "call builtin:len" => row_timed "fresh" ((k_here; (with_reducible show wpAny _ _ (call (Value.builtin "len") [Value.ref _]) _ _ _); k_dflt (refine' len_at ?N ?m ?l ?_; (case N => k_asm); (case m => k_mem); (case l => assumption)); intro t' k'))
  trivial
local macro_rules | `(tactic| k_all) => `(tactic| with_reducible assumption)
theorem ln230 : True := by
  k_with "exec If" => row_timed "fresh" ((k_here; (rename Cut 9 _ => hcut); refine Stop.out ?_))
  k_with "exec For Name Call cons nil" => row_timed "fresh" ((k_here; (rename Fr _ _ _ _ => lF'); (with_unfolding_all refine' For_invVF lF' ?k1 ?k2 ?_; (case k1 => exact rfl); (case k2 => exact rfl); k_whole)))
  k_with "call builtin:list.append" => row_timed "fresh" ((k_here; (with_reducible show wpAny _ _ (call (Value.builtin "list.append") [Value.ref _, _]) _ _ _); k_dflt (refine' append_U ?F ?N ?U ?l ?_; (case F => k_asm); (case N => k_asm); (case U => k_updF); (case l => first | with_reducible assumption | omega)); intro h' F' N'; (try dsimp only at N')))
  k_with "call type:dict" => row_timed "fresh" ((k_here; (with_reducible show wpAny _ _ (call (Value.type "dict") [Value.ref _]) _ _ _); k_dflt (refine' dict_of ?F ?N ?B ?m ?d ?lo ?z ?_; (case F => k_asm); (case N => k_asm); (case B => exact Top.nolimit (by k_asm)); (case m => k_mem); (case d => with_reducible assumption); (case lo => with_reducible assumption); (case z => (rw [sizeLine_eq]; omega))); intro d' h' o' F' N' l1 lo' hd'; (try k_lt l1)))
  k_with "pyIter ref" => row_timed "fresh" (((rename Cut 8 _ => hcut); refine Stop.out ?_))
  k_with "call ref" => row_timed "fresh" ((k_here; (with_reducible show wpAny _ _ (call (Value.ref 214) [Value.ref _, Value.ref _]) _ _ _); (rename Cut 7 _ => hcut); refine Stop.out ?_))
  k_with "call ref" => row_timed "fresh" (((rename Cut 6 _ => hcut); refine Stop.out ?_))
  k_with "call ref" => row_timed "fresh" (((with_reducible show wpAny _ _ (call (Value.ref 143) _) _ _ _); (rename Cut 5 _ => hcut); refine Stop.out ?_))
  k_with "call ref" => row_timed "fresh" (((with_reducible show wpAny _ _ (call (Value.ref 150) _) _ _ _); (rename Cut 10 _ => hcut); refine Stop.out ?_))
  k_with "call ref" => row_timed "fresh" (((with_reducible show wpAny _ _ (call (Value.ref 143) _) _ _ _); (rename Cut 11 _ => hcut); refine Stop.out ?_))
  k_with "call ref" => row_timed "fresh" (((with_reducible show wpAny _ _ (call (Value.ref 178) _) _ _ _); (rename Cut 12 _ => hcut); refine Stop.out ?_))
  k_with "dict small" => row_timed "fresh" ((rw [sizeLine_eq]; (try refine small_st ?_); (try refine small_st2 ?_); omega))
  trivial

set_option maxHeartbeats 8000000 in
theorem deed_spec {prog : Program} {w : World} {p : Program} {loose : List Str} {mean : ExcName → Option Value} {mg mb : Str → Option Value} {dp un : Nat} {gd : Option (List Code)} {l : List Env} {s : Shared} {dk d0 T KR PP : Addr} {ts : List TabRec} {bound : Nat} {U : Addr → Prop} {Q E : Value → Shared → Prop}
    (H : Here (hd.heap_1 w.params) p loose mean mg mb (cx dp un gd l) l ([dk, d0, T, KR, PP] ++ tabA ts) s.heap) (X : Tabs prog w s.heap U dk d0 T KR PP ts bound) (hpos : 1 ≤ ts.length) (hU : ∀ b, s.heap.get? b = none → U b) (hbd : bound < 5000) (hdp : dp + 200 < 1000) (hun : un + 1000 < 9900)
    (ret : ∀ h' tk ts', Tabs prog w h' U dk d0 T KR PP ts' (bound + 5) → ts.length ≤ ts'.length → (∀ b o, s.heap.get? b = some o → b ∉ [dk, d0, T, KR, PP] ++ tabA ts → h'.get? b = some o) → Q .none { s with heap := h', toks := tk }) :
    wpAny (model prog w) (cx dp un gd l) (call (.ref 240) [.ref dk, .ref T, .ref KR, .ref PP]) Q E s := by
  obtain ⟨o, o0, gdk, gd0, hDk⟩ := X.gd
  obtain ⟨nT, gT⟩ := X.gT
  obtain ⟨nK, gK⟩ := X.gK
  obtain ⟨nP, ps, gP, pl, pi⟩ := X.gP
  have offdk := tab_off X (b := dk) (by simp)
  have offd0 := tab_off X (b := d0) (by simp)
  have five := X.five
  simp only [List.nodup_cons, List.mem_cons, List.not_mem_nil, or_false, not_or, not_false_eq_true, List.nodup_nil, and_true] at five
  obtain ⟨⟨n1, n2, n3, n4⟩, ⟨n5, n6, n7⟩, ⟨n8, n9⟩, n10⟩ := five
  have hlen := X.len
  have hlT : (ts.map fun t => Value.ref t.a).length < 1000 := by rw [List.length_map]; omega
  refine wpAny_call ?_
  k_dflt (refine' enter (K := hd.heap_1 w.params) (p := p) (loose := loose) (mean := mean) (mg := mg) (mb := mb) (l := l) (binds := [((PySem.Str.ofString "deck"), .ref dk), ((PySem.Str.ofString "tables"), .ref T), ((PySem.Str.ofString "known_rows"), .ref KR), ((PySem.Str.ofString "parents"), .ref PP)]) (D := ((dk, o) :: (d0, o0) :: (T, _) :: (KR, _) :: (PP, _) :: (tabA ts).map (objOf s.heap))) ?H ?ND ?ho ?hcd ?hroom ?hbind ?hloc ?_ ?c2 ?c3 ?c4 ?c5; (case H => exact (by simpa [Function.comp_def] using H)); (case ho => k_is); (case hcd => k_is); (case hroom => (show dp < 1000; omega)); (case hbind => exact BindsTo.of_eq rfl); (case hloc => exact locs rfl); (case c2 => exact rfl); (case c3 => exact rfl); (case c4 => exact rfl); (case c5 => decide); k_whole)
  case ND =>
    intro q hq
    simp only [List.mem_cons] at hq
    rcases hq with rfl | rfl | rfl | rfl | rfl | hq
    · exact gdk
    · exact gd0
    · exact gT
    · exact gK
    · exact gP
    · exact (tab_there X q hq).1
  intro base g L' h₁ keep F' N' B' X' T' lt' sz'
  (try dsimp only)
  try k_fold
  replace n1 := neN n1
  replace n2 := neN n2
  replace n3 := neN n3
  replace n4 := neN n4
  replace n5 := neN n5
  replace n6 := neN n6
  replace n7 := neN n7
  replace n8 := neN n8
  replace n9 := neN n9
  replace n10 := neN n10
  have hne := n1
  have hcut := cut 9 fun _ => True
  have hl1 : 1 ≤ (ts.map fun t => Value.ref t.a).length := by rw [List.length_map]; omega
  k_steps
  unfold Stop
  (rename Fr _ _ _ _ => FF; rename News _ _ _ _ => NN; rename Deck _ _ _ => hDk9; rename MtIs _ _ => hm9; rename Sg _ _ => hs9; rename List.Sublist _ _ => hf9)


  rename_i at9 tat y20 y21 y22 at0 at1 lq le y23 y24 xk fk ck t1k mvk mtk ysk flk y1 y2 y3 y4 y5 y6 hck hflk y7 y8 way tway y9 y10 y11 way0 way1 z10 z11 y12 y13 z12 z13 z14 z15 z16 z17 z18 z19 Tk hTk x9 d9 y14 y15 z22 z23 z24 z25 z26 z27 z28 z29 z30 z31 z32 z33 z34 z35 z36 z37 z38 h9 tk9 cc tcc o9 o09 cc0 cc1 z39 z40 z41 z42 z43 hfin
  obtain ⟨i, rfl⟩ := Int.eq_ofNat_of_zero_le at0
  have hi0 : i < ts.length := by rw [List.length_map] at at1; omega
  obtain ⟨t, hi⟩ : ∃ t, ts[i]? = some t := ⟨_, List.getElem?_eq_getElem hi0⟩
  have htm : t ∈ ts := List.mem_of_getElem? hi
  obtain ⟨kvs, kks, Ri⟩ := X.each i t hi
  obtain ⟨oe, ge, hT9⟩ := Ri.ge
  obtain ⟨orr, gr, hr⟩ := Ri.gr
  obtain ⟨okk, gk, hk⟩ := Ri.gk
  obtain ⟨vdk, mdk, zdk⟩ := X.lists dk (by simp)
  obtain ⟨vd0, md0, zd0⟩ := X.lists d0 (by simp)
  have fx : s.heap.get? x9 = none := fresh_of keep (News.new NN (by k_mem : (x9, instObj 86 d9) ∈ _)) (notinD (Nat.ne_of_lt (Nat.lt_trans y15.2.2.2.1 z22)) (Nat.ne_of_lt (Nat.lt_trans y15.2.2.2.2.1 z22)) (Nat.ne_of_lt (Nat.lt_trans y15.2.2.2.2.2.1 z22)) (Nat.ne_of_lt (Nat.lt_trans y15.2.2.2.2.2.2.1 z22)) (Nat.ne_of_lt (Nat.lt_trans y15.2.2.2.2.2.2.2.1 z22)) (fun q hq => Nat.ne_of_lt (Nat.lt_trans (allLt_mem y15.2.2.2.2.2.2.2.2 q hq) z22)))
  have fd : s.heap.get? d9 = none := fresh_of keep (News.new NN (.tail _ (.tail _ (.head _)))) (notinD (Nat.ne_of_lt y15.2.2.2.1) (Nat.ne_of_lt y15.2.2.2.2.1) (Nat.ne_of_lt y15.2.2.2.2.2.1) (Nat.ne_of_lt y15.2.2.2.2.2.2.1) (Nat.ne_of_lt y15.2.2.2.2.2.2.2.1) (fun q hq => Nat.ne_of_lt (allLt_mem y15.2.2.2.2.2.2.2.2 q hq)))
  have fxk : s.heap.get? xk = none := fresh_of keep (News.new NN (by k_mem : (xk, tupO (.str (sg ck) t1k) mvk (.ref fk)) ∈ _)) (notinD y5.1 y5.2.1 y5.2.2.1 y5.2.2.2.1 y5.2.2.2.2.1 (off1_mem y5.2.2.2.2.2))
  have ffk : s.heap.get? fk = none := fresh_of keep (News.new NN (by k_mem : (fk, LCg.lst ysk) ∈ _)) (notinD y4.1 y4.2.1 y4.2.2.1 y4.2.2.2.1 y4.2.2.2.2.1 (off1_mem y4.2.2.2.2.2))
  have inR : ∀ b ∈ tabA ts, ∀ o, s.heap.get? b = some o → hfin.get? b = some o ∧ b ≠ L' := fun b hb o z => by
    have mq : objOf s.heap b ∈ (tabA ts).map (objOf s.heap) := List.mem_map_of_mem hb
    have q := NN _ (mem_tails mq)
    have e : (objOf s.heap b).2 = o := by show (s.heap.get? b).getD default = o; rw [z]; rfl
    rw [e] at q
    exact ⟨q.1, q.2.1⟩
  obtain ⟨base2, g2, B2, X2, T2, F2, kin, back9⟩ := reground (D := (dk, o) :: (d0, o0) :: (T, _) :: (KR, _) :: (PP, _) :: (tabA ts).map (objOf s.heap)) (D9 := [dk, d0, T, KR, PP, t.a, t.e, t.r, t.k]) (by simpa [Function.comp_def] using H) (sub9 htm) keep FF sz' (same9 inR)
  have N9 := news_in back9 (q := (x9, instObj 86 d9)) (NN _ (by k_mem)).1 (NN (x9, instObj 86 d9) (by k_mem)).2.1 (.inr fx) (news_in back9 (q := (d9, _)) (NN _ (.tail _ (.tail _ (.head _)))).1 (NN _ (.tail _ (.tail _ (.head _)))).2.1 (.inr fd)
    (news_in back9 (q := (xk, tupO (.str (sg ck) t1k) mvk (.ref fk))) (NN _ (by k_mem)).1 (NN (xk, tupO (.str (sg ck) t1k) mvk (.ref fk)) (by k_mem)).2.1 (.inr fxk) (news_in back9 (q := (fk, LCg.lst ysk)) (NN _ (by k_mem)).1 (NN (fk, LCg.lst ysk) (by k_mem)).2.1 (.inr ffk)
    (news_in back9 (q := (dk, o9)) (NN _ (by k_mem)).1 (NN (dk, o9) (by k_mem)).2.1 (.inl (by simp)) (news_in back9 (q := (d0, o09)) (NN _ (by k_mem)).1 (NN (d0, o09) (by k_mem)).2.1 (.inl (by simp))
    (news_in back9 (q := (T, W.listOf (ts.map fun t => Value.ref t.a).toArray nT)) (NN _ (by k_mem)).1 (NN (T, W.listOf (ts.map fun t => Value.ref t.a).toArray nT) (by k_mem)).2.1 (.inl (by simp)) (news_in back9 (q := (KR, W.listOf (ts.map fun t => Value.ref t.k).toArray nK)) (NN _ (by k_mem)).1 (NN (KR, W.listOf (ts.map fun t => Value.ref t.k).toArray nK) (by k_mem)).2.1 (.inl (by simp)) (news_in back9 (q := (PP, W.listOf ps.toArray nP)) (NN _ (by k_mem)).1 (NN (PP, W.listOf ps.toArray nP) (by k_mem)).2.1 (.inl (by simp))
    (news_in back9 (q := (t.a, instObj 181 t.e)) (inR t.a (tabA_mem htm (by simp)) _ Ri.ga).1 (inR t.a (tabA_mem htm (by simp)) _ Ri.ga).2 (.inl (by simp)) (news_in back9 (q := (t.e, oe)) (inR t.e (tabA_mem htm (by simp)) _ ge).1 (inR t.e (tabA_mem htm (by simp)) _ ge).2 (.inl (by simp))
    (news_in back9 (q := (t.r, orr)) (inR t.r (tabA_mem htm (by simp)) _ gr).1 (inR t.r (tabA_mem htm (by simp)) _ gr).2 (.inl (by simp)) (news_in back9 (q := (t.k, okk)) (inR t.k (tabA_mem htm (by simp)) _ gk).1 (inR t.k (tabA_mem htm (by simp)) _ gk).2 (.inl (by simp)) News.none))))))))))))
  have hTa : (ts.map fun t => Value.ref t.a)[i]? = some (.ref t.a) := by rw [List.getElem?_map, hi]; rfl
  have hKk : (ts.map fun t => Value.ref t.k)[i]? = some (.ref t.k) := by rw [List.getElem?_map, hi]; rfl
  have hi3 : i < 1000 := by omega
  have hw : way = 0 ∨ way = 1 ∨ way = 2 ∨ way = 3 ∨ way = 4 ∨ way = 5 := way_cases way0 way1
  have hl9 := Ri.len1
  have hl8 := Ri.len2
  have bF2 := Box.mk F2
  have bN9 := Box.mk N9
  have q90 : Box (@Ne Nat fk xk) := ⟨y6⟩
  clear y15 z41 z12 y4 y5 y6 inR NN FF F2 N9
  repeat (rename Fr _ _ _ _ => hz; clear hz)
  repeat (rename News _ _ _ _ => hz; clear hz)
  have F9 := bF2.out
  have N9 := bN9.out
  clear bF2 bN9
  have q0 : Box (@Ne Nat dk d0) := ⟨n1⟩
  have q1 : Box (@Ne Nat dk T) := ⟨n2⟩
  have q2 : Box (@Ne Nat dk KR) := ⟨n3⟩
  have q3 : Box (@Ne Nat dk PP) := ⟨n4⟩
  have q4 : Box (@Ne Nat d0 T) := ⟨n5⟩
  have q5 : Box (@Ne Nat d0 KR) := ⟨n6⟩
  have q6 : Box (@Ne Nat d0 PP) := ⟨n7⟩
  have q7 : Box (@Ne Nat T KR) := ⟨n8⟩
  have q8 : Box (@Ne Nat T PP) := ⟨n9⟩
  have q9 : Box (@Ne Nat KR PP) := ⟨n10⟩
  have q10 : Box (@Ne Nat dk t.a) := ⟨Ne.symm (inst_ne_list Ri.ga zdk)⟩
  have q11 : Box (@Ne Nat dk t.e) := ⟨list_ne_dict zdk ge (tab_data hT9)⟩
  have q12 : Box (@Ne Nat dk t.r) := ⟨list_ne_dict zdk gr (isDict_data hr)⟩
  have q13 : Box (@Ne Nat dk t.k) := ⟨list_ne_dict zdk gk (isDict_data hk)⟩
  have q14 : Box (@Ne Nat d0 t.a) := ⟨Ne.symm (inst_ne_list Ri.ga zd0)⟩
  have q15 : Box (@Ne Nat d0 t.e) := ⟨list_ne_dict zd0 ge (tab_data hT9)⟩
  have q16 : Box (@Ne Nat d0 t.r) := ⟨list_ne_dict zd0 gr (isDict_data hr)⟩
  have q17 : Box (@Ne Nat d0 t.k) := ⟨list_ne_dict zd0 gk (isDict_data hk)⟩
  have q18 : Box (@Ne Nat T t.a) := ⟨Ne.symm (inst_ne_list Ri.ga gT)⟩
  have q19 : Box (@Ne Nat T t.e) := ⟨list_ne_dict gT ge (tab_data hT9)⟩
  have q20 : Box (@Ne Nat T t.r) := ⟨list_ne_dict gT gr (isDict_data hr)⟩
  have q21 : Box (@Ne Nat T t.k) := ⟨list_ne_dict gT gk (isDict_data hk)⟩
  have q22 : Box (@Ne Nat KR t.a) := ⟨Ne.symm (inst_ne_list Ri.ga gK)⟩
  have q23 : Box (@Ne Nat KR t.e) := ⟨list_ne_dict gK ge (tab_data hT9)⟩
  have q24 : Box (@Ne Nat KR t.r) := ⟨list_ne_dict gK gr (isDict_data hr)⟩
  have q25 : Box (@Ne Nat KR t.k) := ⟨list_ne_dict gK gk (isDict_data hk)⟩
  have q26 : Box (@Ne Nat PP t.a) := ⟨Ne.symm (inst_ne_list Ri.ga gP)⟩
  have q27 : Box (@Ne Nat PP t.e) := ⟨list_ne_dict gP ge (tab_data hT9)⟩
  have q28 : Box (@Ne Nat PP t.r) := ⟨list_ne_dict gP gr (isDict_data hr)⟩
  have q29 : Box (@Ne Nat PP t.k) := ⟨list_ne_dict gP gk (isDict_data hk)⟩
  have q30 : Box (@Ne Nat t.r t.a) := ⟨Ne.symm (inst_ne_dict Ri.ga gr (isDict_data hr))⟩
  have q31 : Box (@Ne Nat t.k t.a) := ⟨Ne.symm (inst_ne_dict Ri.ga gk (isDict_data hk))⟩
  have q32 : Box (@Ne Nat t.r t.e) := ⟨Ne.symm (tab_ne_rows ge gr hT9 hr)⟩
  have q33 : Box (@Ne Nat t.k t.e) := ⟨Ne.symm (tab_ne_rows ge gk hT9 hk)⟩
  have q34 : Box (@Ne Nat t.r t.k) := ⟨(X.nd i i t t hi hi).2⟩
  have q35 : Box (@Ne Nat x9 dk) := ⟨fresh_ne fx zdk⟩
  have q36 : Box (@Ne Nat x9 d0) := ⟨fresh_ne fx zd0⟩
  have q37 : Box (@Ne Nat x9 T) := ⟨fresh_ne fx gT⟩
  have q38 : Box (@Ne Nat x9 KR) := ⟨fresh_ne fx gK⟩
  have q39 : Box (@Ne Nat x9 PP) := ⟨fresh_ne fx gP⟩
  have q40 : Box (@Ne Nat x9 t.r) := ⟨fresh_ne fx gr⟩
  have q41 : Box (@Ne Nat x9 t.k) := ⟨fresh_ne fx gk⟩
  have q42 : Box (@Ne Nat d9 dk) := ⟨fresh_ne fd zdk⟩
  have q43 : Box (@Ne Nat d9 d0) := ⟨fresh_ne fd zd0⟩
  have q44 : Box (@Ne Nat d9 T) := ⟨fresh_ne fd gT⟩
  have q45 : Box (@Ne Nat d9 KR) := ⟨fresh_ne fd gK⟩
  have q46 : Box (@Ne Nat d9 PP) := ⟨fresh_ne fd gP⟩
  have q47 : Box (@Ne Nat d9 t.r) := ⟨fresh_ne fd gr⟩
  have q48 : Box (@Ne Nat d9 t.k) := ⟨fresh_ne fd gk⟩
  have q49 : Box (@Ne Nat xk dk) := ⟨fresh_ne fxk zdk⟩
  have q50 : Box (@Ne Nat xk d0) := ⟨fresh_ne fxk zd0⟩
  have q51 : Box (@Ne Nat xk T) := ⟨fresh_ne fxk gT⟩
  have q52 : Box (@Ne Nat xk KR) := ⟨fresh_ne fxk gK⟩
  have q53 : Box (@Ne Nat xk PP) := ⟨fresh_ne fxk gP⟩
  have q54 : Box (@Ne Nat xk t.r) := ⟨fresh_ne fxk gr⟩
  have q55 : Box (@Ne Nat xk t.k) := ⟨fresh_ne fxk gk⟩
  have q56 : Box (@Ne Nat fk dk) := ⟨fresh_ne ffk zdk⟩
  have q57 : Box (@Ne Nat fk d0) := ⟨fresh_ne ffk zd0⟩
  have q58 : Box (@Ne Nat fk T) := ⟨fresh_ne ffk gT⟩
  have q59 : Box (@Ne Nat fk KR) := ⟨fresh_ne ffk gK⟩
  have q60 : Box (@Ne Nat fk PP) := ⟨fresh_ne ffk gP⟩
  have q61 : Box (@Ne Nat fk t.r) := ⟨fresh_ne ffk gr⟩
  have q62 : Box (@Ne Nat fk t.k) := ⟨fresh_ne ffk gk⟩
  obtain ⟨te1, te2, rfl⟩ := hT9
  clear n1 n2 n3 n4 n5 n6 n7 n8 n9 n10 hne offdk offd0
  have hne : @Ne Nat dk d0 := q0.out
  (rename Cut _ _ => hct; clear hct)
  obtain rfl := tx_of hTk
  rcases hw with rfl | rfl | rfl | rfl | rfl | rfl
  · k_steps
    (rename Fr _ _ _ _ => FF; rename News _ _ _ _ => NN; rename Obj.IsDictOf _ _ (stored kks _ _) => hk2; rename Obj.IsDictOf _ _ (stored kvs _ _) => hr2; rename (@LT.lt _ _ _ _) => l2; rename (And (@LT.lt _ _ _ _) _) => l1)
    have k9 := keep9 kin FF.keep gT gK gP Ri.ga ge (NN.get (by k_mem)) (NN.get (by k_mem)) (NN.get (by k_mem)) (NN.get (by k_mem)) (NN.get (by k_mem))
    have XX := Tabs.step X hi k9 (NN.get (by k_mem)) (NN.get (by k_mem)) hDk9 (NN.get (by k_mem)) hr2 (NN.get (by k_mem)) hk2 (Nat.le_add_right bound 5) (Nat.le_trans stored_len (by omega)) (Nat.le_trans stored_len (by omega)) (rel_stored (fun code => (Ri.rel code).keep (mut9 X gr hr gk hk) k9) (.at (NN.get (by k_mem)) (NN.get (by k_mem)) (synd_at rfl) (hU _ (fresh9 kin NN (by k_mem) (notin9 l1.2.2.2.2 (Nat.le_of_lt l2)))) (hU _ (fresh9 kin NN (by k_mem) (notin9 l1.2.2.2.2 (Nat.le_refl _))))) _)
    exact ret _ _ ts XX (Nat.le_refl _) (fun b o z n => k9 b o z (off9 htm n))
  · (have hcut := cut 10 fun _ => True)
    k_steps
    unfold Stop
    k_dflt (refine' range_call ?k1 ?k2 ?k3 ?k4 ?k5 ?kk ?ma ?me ?U ?hT ?hd ?n3 ?hc ?e0 ?e1 ?hl ?d1 ?d2 ?_)
    (case k1 => k_asm)
    (case k2 => k_asm)
    (case k3 => k_asm)
    (case k4 => k_asm)
    (case k5 => k_asm)
    (case kk => exact rfl)
    (case ma => k_mem)
    (case me => k_mem)
    (case hT => exact ⟨_, _, rfl⟩)
    (case U => k_updF)
    (case hd => with_reducible assumption)
    (case n3 => first | k_ne | exact Ne.symm (Box.out (by assumption)))
    (case hc => (constructor <;> omega))
    (case e0 => omega)
    (case e1 => omega)
    (case hl => omega)
    (case d1 => walk_at "mine room")
    (case d2 => walk_at "mine room")
    (rename Cut _ _ => hct; clear hct)
    intro h' tk' orr' F' N' hd2'
    (try dsimp only at N')
    (try k_sweep)
    (try k_fold)
    (have hcut := cut 8 fun _ => True)
    k_steps
    unfold Stop
    (rename Fr _ _ _ _ => FF; rename News _ _ _ _ => NN; rename IsRange _ _ _ _ _ _ _ _ => hR; rename Deck _ _ _ => hDk8; rename ((0:Int) ≤ _) => r0; rename (_ < (4:Int)) => r1)
    (rename Cut _ _ => hct; clear hct)
    obtain ⟨rn, ern⟩ := Int.eq_ofNat_of_zero_le r0
    subst ern
    rw [Int.toNat_natCast] at hd2'
    have hrn : rn < 4 := by omega
    have N2 := News.front (q := (t.k, okk)) NN (by k_mem)
    dsimp only [List.dropLast] at N2
    refine with_all N2 ?ha ?_
    case ha =>
      repeat (refine all_ne_cons ?_ ?_; k_ne)
      exact all_ne_nil
    intro hall
    dsimp only at hall
    have NB := Box.mk N2
    have FB := Box.mk FF
    clear N2 FF NN
    repeat (rename Fr _ _ _ _ => hz; clear hz)
    repeat (rename News _ _ _ _ => hz; clear hz)
    refine iter_range (DRunJ prog w _ (Str.ofString "own") _ t.k kks (120 + cc) (.ref xk)) (n := rn + 1) rfl hR (small_one (by omega) (by omega) (by omega) (by omega)) (by rw [rangeSize_nat]; omega) FB.out NB.out ⟨_, none, none_name rfl, rfl, hk⟩ ?turn ?fin
    case turn =>
      clear hR NB FB
      rintro j m news t0 h tk I hj ⟨ok', vo, rfl, rfl, hdd⟩ F N off
      have hlen := run_len (kvs := kks) (a := 120 + cc) (v := .ref xk) j
      rw [Int.mul_one] at F
      have i3 : Box (@Ne Nat I t.k) := ⟨Ne.symm (off (t.k, ok') (by simp))⟩
      have offS := Box.mk off
      clear off
      k_steps
      (rename Fr _ _ _ _ => FF; rename News _ _ _ _ => NN; rename Obj.IsDictOf _ _ _ => hdn)
      exact ⟨_, _, _, _, rfl, FF, NN, off_upd offS.out, _, _, one_name, rfl, hdn⟩
    case fin =>
      clear hR NB FB
      rintro m news h tk ⟨ok', vo, rfl, rfl, hdd⟩ F N
      (try dsimp only)
      k_steps
      (rename Fr _ _ _ _ => FF; rename News _ _ _ _ => NN)
      have k9 := keep9 kin FF.keep gT gK gP Ri.ga ge (NN.get (by k_mem)) (NN.get (by k_mem)) (NN.get (by k_mem)) (NN.get (by k_mem)) (NN.get (by k_mem))
      have XX := Tabs.step X hi k9 (NN.get (by k_mem)) (NN.get (by k_mem)) hDk8 (NN.get (by k_mem)) hd2' (NN.get (by k_mem)) hdd (Nat.le_add_right bound 5) (Nat.le_trans (run_len _) (by omega)) (Nat.le_trans (run_len _) (by omega)) (rel_run (fun code => (Ri.rel code).keep (mut9 X gr hr gk hk) k9) (.syn (NN.get (by k_mem)) (NN.get (by k_mem)) ⟨_, _, _, _, _, rfl⟩ hm9 (NN.get (by k_mem)) (NN.get (by k_mem)) (by
        simp only [List.mem_cons, List.not_mem_nil, or_false, not_or]
        exact ⟨Box.out (by assumption), Box.out (by assumption), Box.out (by assumption), Box.out (by assumption), Box.out (by assumption)⟩) hm9 hs9 hck hf9 (hU _ fx) (hU _ fd) (hU _ fxk) (hU _ ffk)) _ _)
      exact ret _ _ ts XX (Nat.le_refl _) (fun b o z n => k9 b o z (off9 htm n))
  · (have hcut := cut 11 fun _ => True)
    k_steps
    unfold Stop
    k_dflt (refine' all_call ?k1 ?k2 ?k3 ?k4 ?k5 ?kk ?ma ?me ?U ?hT ?hd ?n3 ?hds ?hc ?hm ?hf ?hl ?d1 ?d2 ?_)
    (case k1 => k_asm)
    (case k2 => k_asm)
    (case k3 => k_asm)
    (case k4 => k_asm)
    (case k5 => k_asm)
    (case kk => exact rfl)
    (case ma => k_mem)
    (case me => k_mem)
    (case hT => exact ⟨_, _, rfl⟩)
    (case U => k_updF)
    (case hd => with_reducible assumption)
    (case n3 => first | k_ne | exact Ne.symm (Box.out (by assumption)))
    (case hds => with_reducible assumption)
    (case hc => with_reducible assumption)
    (case hm => with_reducible assumption)
    (case hf => with_reducible assumption)
    (case hl => omega)
    (case d1 => walk_at "mine room")
    (case d2 => walk_at "mine room")
    (rename Cut _ _ => hct; clear hct)
    intro h' tk' orr' xs ds ods mvs Ts F' N' hd2' hSs hms hTs of ox nxd
    have b1 := off1_of of (by k_mem : (t.k, okk) ∈ _)
    have b2 := off1_of ox (by k_mem : (t.k, okk) ∈ _)
    have ofb := Box.mk of
    have oxb := Box.mk ox
    have nxb := Box.mk nxd
    clear of ox nxd
    (try dsimp only at N')
    (try k_sweep)
    (try k_fold)
    k_steps
    (rename Fr _ _ _ _ => FF; rename News _ _ _ _ => NN; rename Obj.IsDictOf _ _ (stored (stored (stored kks _ _) _ _) _ _) => hk2; rename Deck _ _ _ => hDk8)
    obtain rfl := tx_of hTs
    have k9 := keep9 kin FF.keep gT gK gP Ri.ga ge (NN.get (by k_mem)) (NN.get (by k_mem)) (NN.get (by k_mem)) (NN.get (by k_mem)) (NN.get (by k_mem))
    have hux := hU _ (fresh9 kin NN (by k_mem : (xs, _) ∈ _) (notin9b (off1_mem oxb.out (dk, _) (by k_mem)) (off1_mem oxb.out (d0, _) (by k_mem)) (off1_mem oxb.out (T, _) (by k_mem)) (off1_mem oxb.out (KR, _) (by k_mem)) (off1_mem oxb.out (PP, _) (by k_mem)) (off1_mem oxb.out (t.a, _) (by k_mem)) (off1_mem oxb.out (t.e, _) (by k_mem)) (off1_mem oxb.out (t.r, _) (by k_mem)) (off1_mem oxb.out (t.k, _) (by k_mem))))
    have hud := hU _ (fresh9 kin NN (by k_mem : (ds, _) ∈ _) (notin9b (off1_mem ofb.out (dk, _) (by k_mem)) (off1_mem ofb.out (d0, _) (by k_mem)) (off1_mem ofb.out (T, _) (by k_mem)) (off1_mem ofb.out (KR, _) (by k_mem)) (off1_mem ofb.out (PP, _) (by k_mem)) (off1_mem ofb.out (t.a, _) (by k_mem)) (off1_mem ofb.out (t.e, _) (by k_mem)) (off1_mem ofb.out (t.r, _) (by k_mem)) (off1_mem ofb.out (t.k, _) (by k_mem))))
    have rr : RelV w.params _ [dk, d0, T, KR, PP] U (some (.ref xs)) (some (.ref xk)) := (.syn (NN.get (by k_mem)) (NN.get (by k_mem)) hSs hms (NN.get (by k_mem)) (NN.get (by k_mem)) (by
        simp only [List.mem_cons, List.not_mem_nil, or_false, not_or]
        exact ⟨Box.out (by assumption), Box.out (by assumption), Box.out (by assumption), Box.out (by assumption), Box.out (by assumption)⟩) hm9 hs9 hck hf9 hux hud (hU _ fxk) (hU _ ffk))
    have XX := Tabs.step X hi k9 (NN.get (by k_mem)) (NN.get (by k_mem)) hDk8 (NN.get (by k_mem)) hd2' (NN.get (by k_mem)) hk2 (Nat.le_add_right bound 5) (len3 hl9) (len3 hl8) (rel_stored (rel_stored (rel_stored (fun code => (Ri.rel code).keep (mut9 X gr hr gk hk) k9) rr _) rr _) rr _)
    exact ret _ _ ts XX (Nat.le_refl _) (fun b o z n => k9 b o z (off9 htm n))
  · have hpv9 := parV_cases ts t.par
    have lo9 := Ri.lo
    have lo8 := Ri.lo2
    have hlK : (ts.map fun t => Value.ref t.k).length < 1000 := by rw [List.length_map]; omega
    have hlP : ps.length < 1000 := by omega
    obtain ⟨pv9, hPv⟩ : ∃ v, ps[i]? = some v := ⟨_, List.getElem?_eq_getElem (by omega)⟩
    (have hcut := cut 12 fun _ => True)
    k_steps
    · unfold Stop
      k_dflt (refine' copy_call ?k1 ?k2 ?k3 ?k4 ?k5 ?kk ?ma ?me ?mr ?hT ?hd ?lo ?n3 ?hpv ?hl ?d1 ?d2 ?_)
      (case k1 => k_asm)
      (case k2 => k_asm)
      (case k3 => k_asm)
      (case k4 => k_asm)
      (case k5 => k_asm)
      (case kk => exact rfl)
      (case ma => k_mem)
      (case me => k_mem)
      (case hT => exact ⟨_, _, rfl⟩)
      (case mr => k_mem)
      (case hd => with_reducible assumption)
      (case lo => with_reducible assumption)
      (case n3 => first | k_ne | exact Ne.symm (Box.out (by assumption)))
      (case hpv => assumption)
      (case hl => omega)
      (case d1 => walk_at "mine room")
      (case d2 => walk_at "mine room")
      intro h' tk' a2 e2 oe2 r2 or2 F' N' hT2' hd2' lo2' oa2 oe2' or2' za2 ze2 zr2
      (rename Cut _ _ => hct; clear hct)
      have c1 := off1_of oa2 (by k_mem : (T, _) ∈ _)
      have c2 := off1_of oe2' (by k_mem : (T, _) ∈ _)
      have c3 := off1_of or2' (by k_mem : (T, _) ∈ _)
      have c4 := off1_of oa2 (by k_mem : (KR, _) ∈ _)
      have c5 := off1_of oe2' (by k_mem : (KR, _) ∈ _)
      have c6 := off1_of or2' (by k_mem : (KR, _) ∈ _)
      have c7 := off1_of oa2 (by k_mem : (PP, _) ∈ _)
      have c8 := off1_of oe2' (by k_mem : (PP, _) ∈ _)
      have c9 := off1_of or2' (by k_mem : (PP, _) ∈ _)
      have oaB := Box.mk oa2
      have oeB := Box.mk oe2'
      have orB := Box.mk or2'
      clear oa2 oe2' or2'
      (try dsimp only at N')
      (try k_sweep)
      (try k_fold)
      k_steps
      (rename Fr _ _ _ _ => FF; rename News _ _ _ _ => NN; rename Obj.IsDictOf _ _ kks => hk2; rename (_ == sysModules) = false => lo2; rename (And (@LT.lt _ _ _ _) _) => l1)
      have k5 := keep5 kin FF.keep Ri.ga ge gr gk (NN.get (by k_mem)) (NN.get (by k_mem)) (NN.get (by k_mem)) (NN.get (by k_mem))
      have ua := hU _ (fresh9 kin NN (by k_mem : (a2, _) ∈ _) (notin9b (off1_mem oaB.out (dk, _) (by k_mem)) (off1_mem oaB.out (d0, _) (by k_mem)) (off1_mem oaB.out (T, _) (by k_mem)) (off1_mem oaB.out (KR, _) (by k_mem)) (off1_mem oaB.out (PP, _) (by k_mem)) (off1_mem oaB.out (t.a, _) (by k_mem)) (off1_mem oaB.out (t.e, _) (by k_mem)) (off1_mem oaB.out (t.r, _) (by k_mem)) (off1_mem oaB.out (t.k, _) (by k_mem))))
      have ue := hU _ (fresh9 kin NN (by k_mem : (e2, _) ∈ _) (notin9b (off1_mem oeB.out (dk, _) (by k_mem)) (off1_mem oeB.out (d0, _) (by k_mem)) (off1_mem oeB.out (T, _) (by k_mem)) (off1_mem oeB.out (KR, _) (by k_mem)) (off1_mem oeB.out (PP, _) (by k_mem)) (off1_mem oeB.out (t.a, _) (by k_mem)) (off1_mem oeB.out (t.e, _) (by k_mem)) (off1_mem oeB.out (t.r, _) (by k_mem)) (off1_mem oeB.out (t.k, _) (by k_mem))))
      have fr := fresh9 kin NN (by k_mem : (r2, _) ∈ _) (notin9b (off1_mem orB.out (dk, _) (by k_mem)) (off1_mem orB.out (d0, _) (by k_mem)) (off1_mem orB.out (T, _) (by k_mem)) (off1_mem orB.out (KR, _) (by k_mem)) (off1_mem orB.out (PP, _) (by k_mem)) (off1_mem orB.out (t.a, _) (by k_mem)) (off1_mem orB.out (t.e, _) (by k_mem)) (off1_mem orB.out (t.r, _) (by k_mem)) (off1_mem orB.out (t.k, _) (by k_mem)))
      have fd := fresh9 kin NN (List.Mem.head _) (notin9 l1.2.2.2.2.2.2.2 (Nat.le_refl _))
      have XX := Tabs.append X hi Ri (by rw [List.length_map] at *; omega) k5 (NN.get (by k_mem)) (NN.get (by k_mem)) hDk9 (NN.get (by k_mem)) (NN.get (by k_mem)) (NN.get (by k_mem)) pl pi hPv (NN.get (by k_mem)) (NN.get (by k_mem)) hT2' (NN.get (by k_mem)) hd2' (NN.get (by k_mem)) hk2 lo2' lo2 ⟨ua, ue, hU _ fr, hU _ fd⟩ fr fd (Nat.ne_of_lt l1.2.2.1) (Nat.le_add_right bound 5)
      exact ret _ _ _ XX (by simp) (fun b o z n => k5 b o z (fun hm => n (List.mem_append_left _ hm)))
    · k_steps
      (rename Fr _ _ _ _ => FF; rename News _ _ _ _ => NN; rename Obj.IsDictOf _ _ (stored kks _ _) => hk2; rename Obj.IsDictOf _ _ (stored kvs _ _) => hr2)
      have k9 := keep9 kin FF.keep gT gK gP Ri.ga ge (NN.get (by k_mem)) (NN.get (by k_mem)) (NN.get (by k_mem)) (NN.get (by k_mem)) (NN.get (by k_mem))
      have XX := Tabs.step X hi k9 (NN.get (by k_mem)) (NN.get (by k_mem)) hDk9 (NN.get (by k_mem)) hr2 (NN.get (by k_mem)) hk2 (Nat.le_add_right bound 5) (Nat.le_trans stored_len (by omega)) (Nat.le_trans stored_len (by omega)) (rel_stored (fun code => (Ri.rel code).keep (mut9 X gr hr gk hk) k9) (.syn (NN.get (by k_mem)) (NN.get (by k_mem)) ⟨_, _, _, _, _, rfl⟩ hm9 (NN.get (by k_mem)) (NN.get (by k_mem)) (by
        simp only [List.mem_cons, List.not_mem_nil, or_false, not_or]
        exact ⟨Box.out (by assumption), Box.out (by assumption), Box.out (by assumption), Box.out (by assumption), Box.out (by assumption)⟩) hm9 hs9 hck hf9 (hU _ fx) (hU _ fd) (hU _ fxk) (hU _ ffk)) _)
      exact ret _ _ ts XX (Nat.le_refl _) (fun b o z n => k9 b o z (off9 htm n))
  · k_steps
    (rename Fr _ _ _ _ => FF; rename News _ _ _ _ => NN; rename Obj.IsDictOf _ _ (stored kks _ _) => hk2; rename Obj.IsDictOf _ _ (stored kvs _ _) => hr2)
    have k9 := keep9 kin FF.keep gT gK gP Ri.ga ge (NN.get (by k_mem)) (NN.get (by k_mem)) (NN.get (by k_mem)) (NN.get (by k_mem)) (NN.get (by k_mem))
    have XX := Tabs.step X hi k9 (NN.get (by k_mem)) (NN.get (by k_mem)) hDk9 (NN.get (by k_mem)) hr2 (NN.get (by k_mem)) hk2 (Nat.le_add_right bound 5) (Nat.le_trans stored_len (by omega)) (Nat.le_trans stored_len (by omega)) (rel_stored (fun code => (Ri.rel code).keep (mut9 X gr hr gk hk) k9) (.syn (NN.get (by k_mem)) (NN.get (by k_mem)) ⟨_, _, _, _, _, rfl⟩ hm9 (NN.get (by k_mem)) (NN.get (by k_mem)) (by
      simp only [List.mem_cons, List.not_mem_nil, or_false, not_or]
      exact ⟨Box.out (by assumption), Box.out (by assumption), Box.out (by assumption), Box.out (by assumption), Box.out (by assumption)⟩) hm9 hs9 hck hf9 (hU _ fx) (hU _ fd) (hU _ fxk) (hU _ ffk)) _)
    exact ret _ _ ts XX (Nat.le_refl _) (fun b o z n => k9 b o z (off9 htm n))
  · k_steps
    (rename Fr _ _ _ _ => FF; rename News _ _ _ _ => NN; rename Obj.IsDictOf _ _ (stored kks _ _) => hk2; rename Obj.IsDictOf _ _ (stored kvs _ _) => hr2)
    have k9 := keep9 kin FF.keep gT gK gP Ri.ga ge (NN.get (by k_mem)) (NN.get (by k_mem)) (NN.get (by k_mem)) (NN.get (by k_mem)) (NN.get (by k_mem))
    have XX := Tabs.step X hi k9 (NN.get (by k_mem)) (NN.get (by k_mem)) hDk9 (NN.get (by k_mem)) hr2 (NN.get (by k_mem)) hk2 (Nat.le_add_right bound 5) (Nat.le_trans stored_len (by omega)) (Nat.le_trans stored_len (by omega)) (rel_stored (fun code => (Ri.rel code).keep (mut9 X gr hr gk hk) k9) (.syn (NN.get (by k_mem)) (NN.get (by k_mem)) ⟨_, _, _, _, _, rfl⟩ hm9 (NN.get (by k_mem)) (NN.get (by k_mem)) (by
      simp only [List.mem_cons, List.not_mem_nil, or_false, not_or]
      exact ⟨Box.out (by assumption), Box.out (by assumption), Box.out (by assumption), Box.out (by assumption), Box.out (by assumption)⟩) hm9 hs9 hck hf9 (hU _ fx) (hU _ fd) (hU _ fxk) (hU _ ffk)) _)
    exact ret _ _ ts XX (Nat.le_refl _) (fun b o z n => k9 b o z (off9 htm n))
end Mine
end

/- Chains -/
section
open PySem PySem.W PySem.Calls PyProof.Rows
theorem Mine.restChains {prog : Program} {w : World} {A : Around} {env : Env} {Q : Flow → Shared → Prop} {E : Value → Shared → Prop} {s : Shared} (h : ∀ f s', Q f s') : wpAny (model prog w) A (execs [] env) Q E s := by
  k_with_none
  w_top off
  walk1
  exact h _ _
end
section
open PySem PySem.W PySem.Calls PyProof.Rows
namespace Mine
/-- what a table's answer and the law's own answer have in common -/
inductive Match (P : Params) (D : List (Addr × Obj)) : Option Addr → Option Addr → Prop
  | none : Match P D .none .none
  | some {x d kx fa : Addr} {od : Obj} {mv mv2 : Value} {t1 : Tok} {c : Nat} {mt : Option Int} {ys : List Value} {fl : List Nat} : (x, instObj 86 d) ∈ D → (d, od) ∈ D → SynD P od (sg c) mv (tx fl) → MtIs mv mt → (kx, tupO (.str (sg c) t1) mv2 (.ref fa)) ∈ D → (fa, LCg.lst ys) ∈ D → MtIs mv2 mt → Sg ys fl → c ∈ KC → fl.Sublist FC → Match P D (some x) (some kx)
theorem kc_ne64 {c : Nat} (h : c ∈ KC) : c ≠ 64 := by
  intro e; subst e
  revert h
  decide
section
variable {prog : Program} {w : World} {h h' : Heap} {dk d0 T KR PP : Addr} {ts : List TabRec} {bound : Nat} {U U' : Addr → Prop}
theorem RelV.move {P : Params} {M : List Addr} {ov ok : Option Value} (k : ∀ b o, h.get? b = some o → U b → h'.get? b = some o ∧ U' b) (R : RelV P h M U ov ok) : RelV P h' M U' ov ok := by
  cases R with
  | none => exact .none
  | «at» g1 g2 hS ux ud => exact .at (k _ _ g1 ux).1 (k _ _ g2 ud).1 hS (k _ _ g1 ux).2 (k _ _ g2 ud).2
  | syn g1 g2 hS hm g3 g4 hn hm2 hs hc hf ux ud uk uf => exact .syn (k _ _ g1 ux).1 (k _ _ g2 ud).1 hS hm (k _ _ g3 uk).1 (k _ _ g4 uf).1 hn hm2 hs hc hf (k _ _ g1 ux).2 (k _ _ g2 ud).2 (k _ _ g3 uk).2 (k _ _ g4 uf).2
theorem Tabs.move (X : Tabs prog w h U dk d0 T KR PP ts bound) (k : ∀ b o, h.get? b = some o → U b → h'.get? b = some o ∧ U' b) : Tabs prog w h' U' dk d0 T KR PP ts bound := by
  have aw := X.aw
  obtain ⟨n1, g1⟩ := X.gT
  obtain ⟨n2, g2⟩ := X.gK
  obtain ⟨n3, ps, g3, r3⟩ := X.gP
  obtain ⟨o, o0, g4, g5, hD⟩ := X.gd
  have ls := X.lists
  refine ⟨⟨n1, (k _ _ g1 (aw _ (by simp))).1⟩, ⟨n2, (k _ _ g2 (aw _ (by simp))).1⟩, ⟨n3, ps, (k _ _ g3 (aw _ (by simp))).1, r3⟩, fun i t hi => ?_, X.nd, X.five, fun b hb => ?_, X.len, ⟨o, o0, (k _ _ g4 (aw _ (by simp))).1, (k _ _ g5 (aw _ (by simp))).1, hD⟩⟩
  · obtain ⟨kvs, kks, R⟩ := X.each i t hi
    obtain ⟨oe, ge, hT⟩ := R.ge
    obtain ⟨or', gr, hr⟩ := R.gr
    obtain ⟨ok', gk, hk⟩ := R.gk
    obtain ⟨u1, u2, u3, u4⟩ := R.aw
    exact ⟨kvs, kks, R.par_lt, (k _ _ R.ga u1).1, ⟨oe, (k _ _ ge u2).1, hT⟩, ⟨_, (k _ _ gr u3).1, hr⟩, ⟨_, (k _ _ gk u4).1, hk⟩, R.lo, R.lo2, R.len1, R.len2, ⟨(k _ _ R.ga u1).2, (k _ _ ge u2).2, (k _ _ gr u3).2, (k _ _ gk u4).2⟩, fun code => (R.rel code).move k⟩
  · obtain ⟨vs, n, z⟩ := ls b hb
    exact (k _ _ z (aw b hb)).2
theorem Tabs.mono (X : Tabs prog w h U dk d0 T KR PP ts bound) {b' : Nat} (hb : bound ≤ b') : Tabs prog w h U dk d0 T KR PP ts b' :=
  ⟨X.gT, X.gK, X.gP, fun i t hi => by
    obtain ⟨kvs, kks, R⟩ := X.each i t hi
    exact ⟨kvs, kks, R.par_lt, R.ga, R.ge, R.gr, R.gk, R.lo, R.lo2, Nat.le_trans R.len1 hb, Nat.le_trans R.len2 hb, R.aw, R.rel⟩, X.nd, X.five, X.aw, X.len, X.gd⟩
/-- from a table up to its last parent, both ways alike -/
theorem Tabs.chains (X : Tabs prog w h U dk d0 T KR PP ts bound) {D : List (Addr × Obj)} (full : ∀ b o, h.get? b = some o → U b → b ∉ [dk, d0, T, KR, PP] → (b, o) ∈ D) {n3 : Nat} {ps : List Value} (pl : ps.length = ts.length) (pi : ∀ (i : Nat) (v : Value) (t : TabRec), ps[i]? = some v → ts[i]? = some t → PI v t.par) (code : Int) :
    ∀ (N i : Nat) (t : TabRec) (tok : Tok), i < N → ts[i]? = some t → ∃ n n' res res', Chain prog w D code n (.ref t.a) res ∧ DChain prog w D (ts.map fun t => Value.ref t.k) ps code n' (.int (i : Int) tok) res' ∧ Match w.params D res res' := by
  have ls := X.lists
  have offD : ∀ {b : Addr} {o : Obj}, h.get? b = some o → (∃ es n, o.data = .dict es n) → b ∉ [dk, d0, T, KR, PP] := fun z q hm => by
    obtain ⟨vs, n, y⟩ := ls _ hm
    exact list_ne_dict y z q rfl
  have offI : ∀ {b C e : Addr}, h.get? b = some (instObj C e) → b ∉ [dk, d0, T, KR, PP] := fun z hm => by
    obtain ⟨vs, n, y⟩ := ls _ hm
    exact inst_ne_list z y rfl
  have offT : ∀ {b : Addr} {x y z : Value}, h.get? b = some (tupO x y z) → b ∉ [dk, d0, T, KR, PP] := fun z hm => by
    obtain ⟨vs, n, y⟩ := ls _ hm
    exact tup_ne_list z y rfl
  intro N
  induction N with
  | zero => intro i t tok h0; exact absurd h0 (Nat.not_lt_zero _)
  | succ N ih =>
    intro i t tok hiN hi
    have hi0 : i < ts.length := (List.getElem?_eq_some_iff.mp hi).1
    have hl := X.len
    obtain ⟨kvs, kks, R⟩ := X.each i t hi
    obtain ⟨oe, ge, hT⟩ := R.ge
    obtain ⟨or', gr, hr⟩ := R.gr
    obtain ⟨ok', gk, hk⟩ := R.gk
    obtain ⟨u1, u2, u3, u4⟩ := R.aw
    have m1 := full _ _ R.ga u1 (offI R.ga)
    have m2 := full _ _ ge u2 (offD ge (tab_data hT))
    have m3 := full _ _ gr u3 (offD gr (isDict_data hr))
    have m4 := full _ _ gk u4 (offD gk (isDict_data hk))
    have ner := tab_ne_rows ge gr hT hr
    have hkr : (ts.map fun t => Value.ref t.k)[i]? = some (.ref t.k) := by rw [List.getElem?_map, hi]; rfl
    obtain ⟨pv, hpv⟩ : ∃ v, ps[i]? = some v := ⟨_, List.getElem?_eq_getElem (by omega)⟩
    have hPI := pi i pv t hpv hi
    have up : ∃ n n' res res', Chain prog w D code n (parV ts t.par) res ∧ DChain prog w D (ts.map fun t => Value.ref t.k) ps code n' pv res' ∧ Match w.params D res res' := by
      have hlt := R.par_lt
      generalize t.par = pp at hPI hlt
      cases hPI with
      | none => exact ⟨0, 0, _, _, .root, .root, .none⟩
      | some j tk =>
        have hj := hlt j rfl
        obtain ⟨t', ht'⟩ : ∃ t', ts[j]? = some t' := ⟨_, List.getElem?_eq_getElem (by omega)⟩
        have e : parV ts (some j) = .ref t'.a := by
          show (match ts[j]? with | some t => Value.ref t.a | none => .none) = _
          rw [ht']
        rw [e]
        exact ih j t' tk (by omega) ht'
    obtain ⟨n, n', res, res', C, C', M⟩ := up
    have rel := R.rel code
    generalize ev : valueAt kvs code = ov at rel
    generalize ek : valueAt kks code = ok at rel
    cases rel with
    | none => exact ⟨_, _, _, _, .skip (.none m1 m2 m3 hT hr R.lo ner ev) m1 m2 hT C, .none (by omega) hkr m4 hk R.lo2 ek hpv C', M⟩
    | «at» g1 g2 hS ux ud => exact ⟨_, _, _, _, .skip (.at m1 m2 m3 (full _ _ g1 ux (offI g1)) (full _ _ g2 ud (offD g2 (syn_data hS))) hT hr R.lo ner (syn_ne_rows g2 gr hS hr) ev hS) m1 m2 hT C, .at (by omega) hkr m4 hk R.lo2 ek hpv C', M⟩
    | syn g1 g2 hS hm g3 g4 hn hm2 hs hc hf ux ud uk uf =>
      exact ⟨0 + 1, 0 + 1, _, _, .hit (.hit m1 m2 m3 (full _ _ g1 ux (offI g1)) (full _ _ g2 ud (offD g2 (syn_data hS))) hT hr R.lo ner (syn_ne_rows g2 gr hS hr) ev hS (kc_ne64 hc)) m1 m2 hT, .hit (by omega) hkr m4 hk R.lo2 ek (full _ _ g3 uk (offT g3)) (full _ _ g4 uf hn) hc hm2 hs hf, .some (full _ _ g1 ux (offI g1)) (full _ _ g2 ud (offD g2 (syn_data hS))) hS hm (full _ _ g3 uk (offT g3)) (full _ _ g4 uf hn) hm2 hs hc hf⟩
end
/-- every object of a heap that is ours -/
theorem full_list (h : Heap) (U : Addr → Prop) : ∃ D : List (Addr × Obj), (∀ q ∈ D, h.get? q.1 = some q.2 ∧ U q.1) ∧ ∀ b o, h.get? b = some o → U b → (b, o) ∈ D := by
  classical
  refine ⟨(List.range h.objs.size).filterMap (fun b => if U b then (h.get? b).map fun o => (b, o) else none), fun q hq => ?_, fun b o z u => ?_⟩
  · obtain ⟨b, hb, e⟩ := List.mem_filterMap.mp hq
    by_cases u : U b
    · rw [if_pos u] at e
      cases z : h.get? b with
      | none => rw [z] at e; cases e
      | some o => rw [z] at e; cases e; exact ⟨z, u⟩
    · rw [if_neg u] at e; cases e
  · refine List.mem_filterMap.mpr ⟨b, List.mem_range.mpr (Heap.lt_size z), ?_⟩
    rw [if_pos u, z]; rfl
end Mine
end

/- Deck -/
section
open PySem PySem.W PySem.Calls PyProof.Rows
theorem Mine.restDeck {prog : Program} {w : World} {A : Around} {env : Env} {Q : Flow → Shared → Prop} {E : Value → Shared → Prop} {s : Shared} (h : ∀ f s', Q f s') : wpAny (model prog w) A (execs [] env) Q E s := by
  k_with_none
  w_top off
  walk1
  exact h _ _
end
section
open PySem PySem.W PySem.Calls PyProof.Rows
namespace Mine
theorem ln242 : True := by
  k_with "mine room" => row_timed "fresh" (((try simp only [depth_under_make, depth_under_kw, depth_in1, depth_deeper, units_in1, units_deeper]); (try dsimp only [cx, ktrTop]); (try simp only [cLine]); omega))
  trivial
local macro_rules | `(tactic| k_room) => `(tactic| ((try simp only [depth_under_make, depth_under_kw, depth_in1, depth_deeper]); (try dsimp only [cx, ktrTop]); (try dsimp only [recursionLimit]); omega))
local macro_rules | `(tactic| k_ne) => `(tactic| (refine neN ?_; (try dsimp only); first | with_reducible assumption | (with_reducible apply Ne.symm; with_reducible assumption)))
theorem ln243 : True := by
  k_with "CompEnd" => row_timed "fresh" (((try dsimp only); k_dflt (refine ⟨_, _, _, rfl, by with_reducible assumption, by with_reducible assumption, by first | with_reducible assumption | lcg_off, trivial, ?_⟩)))
  trivial

open PyProof.Rows.LCg PyProof.Rows.LCt
theorem ln244 : True := by
  k_with "eval ListComp" => row_timed "fresh" ((k_here; lct_look; k_dflt (refine LCt.ListComp_T (F₀ := by k_asm) (by with_unfolding_all rfl) (by decide) (by rfl) (by decide) (by rfl) ?_)))
  k_with "CompSrcT" => row_timed "fresh" (((rename Cut 5 _ => hcut); refine Stop.out ?_))
  trivial
theorem ints_get : ∀ {ys : List Value} {ns : List Int} {i : Nat} {v : Value}, IntsAre ys ns → ys[i]? = some v → ∃ n t, v = .int n t
  | _, _, _, _, .nil, h => by simp at h
  | _, _, 0, _, .cons n t _, h => by simp at h; exact ⟨n, t, h.symm⟩
  | _, _, i + 1, _, .cons n t r, h => by simp at h; exact ints_get r h
def DkJ (C : List (Addr × Obj)) (i : Nat) (ys : List Value) (news : List (Addr × Obj)) : Prop := news = C ∧ ∃ ns, IntsAre ys ns ∧ ys.length ≤ i
set_option maxHeartbeats 4000000 in
theorem deck_spec {prog : Program} {w : World} {p : Program} {loose : List Str} {mean : ExcName → Option Value} {mg mb : Str → Option Value} {dp un : Nat} {gd : Option (List Code)} {l : List Env} {s : Shared} {sc : Addr} {vs : List Value} {ns : List Int} {Q E : Value → Shared → Prop}
    (H : Here (hd.heap_1 w.params) p loose mean mg mb (cx dp un gd l) l [] s.heap) (hl : s.heap.IsList sc vs.toArray) (hI : IntsAre vs ns) (hlen : ns.length ≤ 63) (hdp : dp + 100 < 1000) (hun : un + 500 < 9900)
    (ret : ∀ h' tk dk d0 o o0, Keep [] s.heap h' → h'.get? dk = some o → h'.get? d0 = some o0 → Deck d0 o o0 → s.heap.get? dk = none → s.heap.get? d0 = none → dk ≠ d0 → Q (.ref dk) { s with heap := h', toks := tk }) :
    wpAny (model prog w) (cx dp un gd l) (call (.ref 190) [.ref sc]) Q E s := by
  refine wpAny_call ?_
  k_dflt (refine' enter (K := hd.heap_1 w.params) (p := p) (loose := loose) (mean := mean) (mg := mg) (mb := mb) (l := l) (binds := [((PySem.Str.ofString "script"), .ref sc)]) (D := []) ?H ?ND ?ho ?hcd ?hroom ?hbind ?hloc ?_ ?c2 ?c3 ?c4 ?c5; (case H => exact H); (case ho => k_is); (case hcd => k_is); (case hroom => (show dp < 1000; omega)); (case hbind => exact BindsTo.of_eq rfl); (case hloc => exact locs rfl); (case c2 => exact rfl); (case c3 => exact rfl); (case c4 => exact rfl); (case c5 => decide); k_whole)
  case ND => intro q hq; cases hq
  intro base g L' h₁ keep F' N' B' X' T' lt' sz'
  (try dsimp only)
  try k_fold
  have hlg : g.IsList sc vs.toArray := by
    obtain ⟨o, ho, r⟩ := hl
    exact ⟨o, keep _ _ ho (by simp), r⟩
  have hcut := cut 5 fun _ => True
  k_steps
  all_goals (try unfold Stop)
  (rename Fr _ _ _ _ => FF; rename News _ _ _ _ => NN; rename IntsAre ys _ => hys)
  have hy24 : ys.length ≤ 24 := by
    rw [hys.length]
    simp only [List.length_map, List.length_take]
    omega
  refine CompSrcT.ledger rfl FF NN (by k_mem) (by rw [sizeLine_eq, List.size_toArray]; omega) ?_
  intro g9
  clear FF NN
  (rename Cut _ _ => hct; clear hct)
  refine turnsT (DkJ _) ?turn ?fin _ 0 [] _ (Nat.zero_add _) ⟨rfl, [], .nil, Nat.le_refl _⟩
  case turn =>
    rintro i zs news v I oI C oC D m₂ h tk E' hi ⟨rfl, ns', hz, hzl⟩ hv hC hx F N off ne
    obtain ⟨n9, t9, rfl⟩ := ints_get hys (by simpa using hv)
    clear ne
    k_steps
    · exact ⟨_, _, _, rfl, F, N, off, Or.inr ⟨_, by k_mem, rfl, _, rfl⟩, rfl, ns' ++ [n9], IntsAre.append hz (.cons n9 t9 .nil), by simp; omega⟩
    · exact ⟨_, _, _, rfl, F, N, off, Or.inr ⟨_, by k_mem, rfl, _, rfl⟩, rfl, ns', hz, Nat.le_succ_of_le hzl⟩
  case fin =>
    rintro zs news ⟨rfl, ns', hz, hzl⟩
    have hz24 : zs.length ≤ 24 := Nat.le_trans hzl (by rw [List.size_toArray]; exact hy24)
    k_steps
    (rename Fr _ _ _ _ => FF; rename News _ _ _ _ => NN; rename (And (@LT.lt _ _ _ _) _) => l1)
    exact ret _ _ _ _ _ _ (fun b o e n => FF.keep b o (keep b o e (by simp))) (NN.get (.head _)) (NN.get (.tail _ (.head _))) ⟨_, _, _, _, _, _, zs, ns', rfl, rfl, hz, by omega⟩ (fresh_of keep (News.new NN (.head _)) (by simp)) (fresh_of keep (News.new NN (.tail _ (.head _))) (by simp)) (Nat.ne_of_gt l1.1)
end Mine
end

/- Kind -/
section
open PySem PySem.W PySem.Calls PyProof.Rows
theorem Mine.restKind {prog : Program} {w : World} {A : Around} {env : Env} {Q : Flow → Shared → Prop} {E : Value → Shared → Prop} {s : Shared} (h : ∀ f s', Q f s') : wpAny (model prog w) A (execs [] env) Q E s := by
  k_with_none
  w_top off
  walk1
  exact h _ _
end
section
open PySem PySem.W PySem.Calls PyProof.Rows
namespace Mine
theorem ln246 : True := by
  k_with "mine room" => row_timed "fresh" (((try simp only [depth_under_make, depth_under_kw, depth_in1, depth_deeper, units_in1, units_deeper]); (try dsimp only [cx, ktrTop]); (try simp only [cLine]); omega))
  trivial
local macro_rules | `(tactic| k_room) => `(tactic| ((try simp only [depth_under_make, depth_under_kw, depth_in1, depth_deeper]); (try dsimp only [cx, ktrTop]); (try dsimp only [recursionLimit]); omega))
local macro_rules | `(tactic| k_ne) => `(tactic| (refine neN ?_; (try dsimp only); first | with_reducible assumption | (with_reducible apply Ne.symm; with_reducible assumption)))

/-- what is told: the sign, the match, the flags -/
inductive Told (P : Params) (D : List (Addr × Obj)) (code : Int) : Option Addr → Nat → Option Int → List Nat → Prop
  | none : Told P D code .none (if 127 < code then 119 else 46) .none []
  | some {x d : Addr} {od : Obj} {mv : Value} {c : Nat} {mt : Option Int} {fl : List Nat} : (x, instObj 86 d) ∈ D → (d, od) ∈ D → SynD P od (sg c) mv (tx fl) → MtIs mv mt → Told P D code (some x) c mt fl
theorem Chain.tab {prog : Program} {w : World} {D : List (Addr × Obj)} {code : Int} {n : Nat} {a : Addr} {res : Option Addr} (C : Chain prog w D code n (.ref a) res) : ∃ e oe pv r, (a, instObj 181 e) ∈ D ∧ (e, oe) ∈ D ∧ TabD w.params oe pv r := by
  cases C with
  | skip T1 m1 m2 hT C3 => exact ⟨_, _, _, _, m1, m2, hT⟩
  | hit T1 m1 m2 hT => exact ⟨_, _, _, _, m1, m2, hT⟩
theorem join2 {s : Shared} {h₀ h' : Heap} {L x d : Addr} {m : Str → Option Value} {D : List (Addr × Obj)} {o1 o2 : Obj} (F : Fr h₀ L s.heap m) (ND : News h₀ L s.heap D) (k : Keep [] s.heap h') (g1 : h'.get? x = some o1) (g2 : h'.get? d = some o2) (f1 : s.heap.get? x = none) (f2 : s.heap.get? d = none) : News h₀ L h' ((x, o1) :: (d, o2) :: D) :=
  join F (join F (back0 F ND k).2 f2 g2) f1 g1
section
variable {prog : Program} {w : World} {p : Program} {loose : List Str} {mean : ExcName → Option Value} {mg mb : Str → Option Value} {dp un : Nat} {gd : Option (List Code)} {s : Shared} {cn : Str} {cs : Scope} {L a0 : Addr} {ccd : Value} {cl : List (Str × Addr)} {outer : List Env} {A₀ : Around} {base h₀ : Heap} {m : Str → Option Value} {news : List (Addr × Obj)}
theorem at_call {a : Addr} {D : List (Addr × Obj)} {code : Int} {t : Tok} {res : Option Addr} {n c : Nat} {mt : Option Int} {fl : List Nat} {Q E : Value → Shared → Prop}
    (B : Below A₀ base outer h₀) (F : Fr h₀ L s.heap m) (X : (hd.heap_1 w.params).In h₀) (N : News h₀ L s.heap news) (TP : Top p loose mean mg mb h₀) (hk : cs.kind = .function) (ND : News h₀ L s.heap D) (C : Chain prog w D code n (.ref a) res) (T : Told w.params D code res c mt fl) (hdp : dp + 160 < 1000) (hun : un + 700 < 9900)
    (ret : ∀ h' tk x d mv t1 t2 t3 u1 u3, Fr h₀ L h' m → News h₀ L h' ((x, instObj 86 d) :: (d, dictOf [{ hash := PyData.keyHash w.params (Str.ofString "kind"), key := .str (Str.ofString "kind") t1, val := .str (sg c) u1 }, { hash := PyData.keyHash w.params (Str.ofString "match"), key := .str (Str.ofString "match") t2, val := mv }, { hash := PyData.keyHash w.params (Str.ofString "flags"), key := .str (Str.ofString "flags") t3, val := .str (tx fl) u3 }] 3) :: D) → Keep [] s.heap h' → SynD w.params (dictOf [{ hash := PyData.keyHash w.params (Str.ofString "kind"), key := .str (Str.ofString "kind") t1, val := .str (sg c) u1 }, { hash := PyData.keyHash w.params (Str.ofString "match"), key := .str (Str.ofString "match") t2, val := mv }, { hash := PyData.keyHash w.params (Str.ofString "flags"), key := .str (Str.ofString "flags") t3, val := .str (tx fl) u3 }] 3) (sg c) mv (tx fl) → MtIs mv mt → (@Ne Nat x d) → Q (.ref x) { s with heap := h', toks := tk }) :
    wpAny (model prog w) (ktrTop dp un gd cn cs L a0 ccd cl outer) (call (.ref 164) [.ref a, .int code t]) Q E s := by
  refine at_spec (H := Here.of (D := D) (A := ktrTop dp un gd cn cs L a0 ccd cl outer) B F X ND TP rfl rfl hk) (fun q hq => (ND q hq).1) C (by omega) (by omega) ?_ ?_
  · rintro h' tk x rfl k
    cases T with
    | some m1 m2 hS hm =>
      have N' := (back0 F ND k).2
      have ne := inst_ne_dict (N' _ m1).1 (N' _ m2).1 (syn_data hS)
      obtain ⟨t1, t2, t3, u1, u3, rfl⟩ := hS
      exact ret h' tk x _ _ _ _ _ _ _ (back0 F N k).1 (News.one N' m1 (News.one N' m2 N')) k ⟨_, _, _, _, _, rfl⟩ hm ne
  · rintro h' tk x d od rfl k g1 g2 hS f1 f2 ne
    cases T with
    | none =>
      obtain ⟨t1, t2, t3, u1, u3, rfl⟩ := hS
      exact ret h' tk x d _ _ _ _ _ _ (back0 F N k).1 (join2 F ND k g1 g2 f1 f2) k ⟨_, _, _, _, _, rfl⟩ .none ne
end
theorem ln247 : True := by
  k_with "call ref" => row_timed "fresh" ((k_here; (with_reducible show wpAny _ _ (call (Value.ref 164) [Value.ref _, Value.int _ _]) _ _ _); k_dflt (refine' at_call ?k1 ?k2 ?k3 ?k4 ?k5 ?kk ?ND ?C ?T ?d1 ?d2 ?_; (case k1 => k_asm); (case k2 => k_asm); (case k3 => k_asm); (case k4 => k_asm); (case k5 => k_asm); (case kk => exact rfl); (case ND => exact Box.out (by assumption)); (case C => with_reducible assumption); (case T => with_reducible assumption); (case d1 => walk_at "mine room"); (case d2 => walk_at "mine room"); k_whole); intro h' tk' xa da mva ua1 ua2 ua3 ua4 ua5 F' N' ka hSa hma nea; (try k_sweep); (try k_fold)))
  trivial

set_option maxHeartbeats 4000000 in
theorem kind_spec {prog : Program} {w : World} {p : Program} {loose : List Str} {mean : ExcName → Option Value} {mg mb : Str → Option Value} {dp un : Nat} {gd : Option (List Code)} {l : List Env} {s : Shared} {a : Addr} {D : List (Addr × Obj)} {code : Int} {t : Tok} {res : Option Addr} {n c : Nat} {mt : Option Int} {fl : List Nat} {Q E : Value → Shared → Prop}
    (H : Here (hd.heap_1 w.params) p loose mean mg mb (cx dp un gd l) l (D.map (·.1)) s.heap) (ND : ∀ q ∈ D, s.heap.get? q.1 = some q.2) (C : Chain prog w D code n (.ref a) res) (T : Told w.params D code res c mt fl) (hdp : dp + 200 < 1000) (hun : un + 800 < 9900)
    (ret : ∀ h' tk t, Keep [] s.heap h' → Q (.str (sg c) t) { s with heap := h', toks := tk }) :
    wpAny (model prog w) (cx dp un gd l) (call (.ref 171) [.ref a, .int code t]) Q E s := by
  refine wpAny_call ?_
  k_dflt (refine' enter (K := hd.heap_1 w.params) (p := p) (loose := loose) (mean := mean) (mg := mg) (mb := mb) (l := l) (binds := [((PySem.Str.ofString "self"), .ref a), ((PySem.Str.ofString "code"), .int code t)]) (D := D) ?H ?ND ?ho ?hcd ?hroom ?hbind ?hloc ?_ ?c2 ?c3 ?c4 ?c5; (case H => exact H); (case ho => k_is); (case hcd => k_is); (case hroom => (show dp < 1000; omega)); (case hbind => exact BindsTo.of_eq rfl); (case hloc => exact locs rfl); (case c2 => exact rfl); (case c3 => exact rfl); (case c4 => exact rfl); (case c5 => decide); k_whole)
  case ND => exact ND
  intro base g L' h₁ keep F' N' B' X' T' lt' sz'
  (try dsimp only)
  try k_fold
  obtain ⟨e, oe, pv, r, m1, m2, hT⟩ := C.tab
  obtain ⟨u1, u2, rfl⟩ := hT
  have NB := Box.mk N'
  have N3 := News.one N' m1 (News.one N' m2 News.none)
  clear N'
  k_steps
  (rename Fr _ _ _ _ => FF; rename News _ _ _ _ => NN)
  exact ret _ _ _ (keepD ND keep FF (fun q hq => NN q (.tail _ (.tail _ hq))))
end Mine
end

/- Many -/
section
open PySem PySem.W PySem.Calls PyProof.Rows
theorem Mine.restMany {prog : Program} {w : World} {A : Around} {env : Env} {Q : Flow → Shared → Prop} {E : Value → Shared → Prop} {s : Shared} (h : ∀ f s', Q f s') : wpAny (model prog w) A (execs [] env) Q E s := by
  k_with_none
  w_top off
  walk1
  exact h _ _
end
section
open PySem PySem.W PySem.Calls PyProof.Rows
namespace Mine
theorem ln248 : True := by
  k_with "mine room" => row_timed "fresh" (((try simp only [depth_under_make, depth_under_kw, depth_in1, depth_deeper, units_in1, units_deeper]); (try dsimp only [cx, ktrTop]); (try simp only [cLine]); omega))
  trivial
local macro_rules | `(tactic| k_room) => `(tactic| ((try simp only [depth_under_make, depth_under_kw, depth_in1, depth_deeper]); (try dsimp only [cx, ktrTop]); (try dsimp only [recursionLimit]); omega))

theorem ln249 : True := by
  k_with "exec While" => row_timed "fresh" ((k_here; refine Stop.out ?_))
  trivial
def ManyI (s : Shared) (g : Heap) (L : Addr) (B : List (Str × Value)) (n : Nat) (s' : Shared) : Prop :=
  ∃ (h' : Heap) (tk : Nat) (k sz : Int) (t1 t2 : Tok), s' = { s with heap := h', toks := tk } ∧ Fr g L h' (fun y => if y = Str.ofString "many" then some (.int k t1) else if y = Str.ofString "size" then some (.int sz t2) else List.lookup y B.reverse) ∧ News g L h' [] ∧ 4 ≤ k ∧ k ≤ 12 ∧ (n : Int) = 12 - k
set_option maxHeartbeats 4000000 in
theorem many_spec {prog : Program} {w : World} {p : Program} {loose : List Str} {mean : ExcName → Option Value} {mg mb : Str → Option Value} {dp un : Nat} {gd : Option (List Code)} {l : List Env} {s : Shared} {sc : Addr} {vs : List Value} {ns : List Int} {t1 t2 : Tok} {Q E : Value → Shared → Prop}
    (H : Here (hd.heap_1 w.params) p loose mean mg mb (cx dp un gd l) l [] s.heap) (hl : s.heap.IsList sc vs.toArray) (hI : IntsAre vs ns) (hlen : ns.length ≤ 63) (hdp : dp + 100 < 1000) (hun : un + 500 < 9900)
    (ret : ∀ h' tk k t, Keep [] s.heap h' → 4 ≤ k → k ≤ 12 → Q (.int k t) { s with heap := h', toks := tk }) :
    wpAny (model prog w) (cx dp un gd l) (call (.ref 202) [.ref sc, .int 4 t1, .int 12 t2]) Q E s := by
  refine wpAny_call ?_
  k_dflt (refine' enter (K := hd.heap_1 w.params) (p := p) (loose := loose) (mean := mean) (mg := mg) (mb := mb) (l := l) (binds := [((PySem.Str.ofString "script"), .ref sc), ((PySem.Str.ofString "least"), .int 4 t1), ((PySem.Str.ofString "most"), .int 12 t2)]) (D := []) ?H ?ND ?ho ?hcd ?hroom ?hbind ?hloc ?_ ?c2 ?c3 ?c4 ?c5; (case H => exact H); (case ho => k_is); (case hcd => k_is); (case hroom => (show dp < 1000; omega)); (case hbind => exact BindsTo.of_eq rfl); (case hloc => exact locs rfl); (case c2 => exact rfl); (case c3 => exact rfl); (case c4 => exact rfl); (case c5 => decide); k_whole)
  case ND => intro q hq; cases hq
  intro base g L' h₁ keep F' N' B' X' T' lt' sz'
  (try dsimp only)
  try k_fold
  have hlg : g.IsList sc vs.toArray := by
    obtain ⟨o, ho, r⟩ := hl
    exact ⟨o, keep _ _ ho (by simp), r⟩
  k_steps
  unfold Stop
  (rename Fr _ _ _ _ => FF)
  refine wpAny_While (codeAny_whileLoop (ManyI s g L' [(Str.ofString "script", .ref sc), (Str.ofString "least", .int 4 t1), (Str.ofString "most", .int 12 t2)]) ?turn 8 ⟨_, _, _, _, _, _, rfl, FF, News.none, by omega, by omega, by omega⟩)
  clear FF
  repeat (rename Fr _ _ _ _ => hz; clear hz)
  repeat (rename News _ _ _ _ => hz; clear hz)
  rintro n s' ⟨h2, tk2, k, sz, u1, u2, rfl, F2, N2, k4, k12, hn⟩
  k_steps
  rotate_left
  rotate_left
  exact n - 1
  · exact ret _ _ _ _ (fun b o e n => F2.keep b o (keep b o e (by simp))) k4 k12
  · exact ret _ _ _ _ (fun b o e n => F2.keep b o (keep b o e (by simp))) k4 k12
  · omega
  · (rename Fr _ _ _ _ => FF; rename News _ _ _ _ => NN; rw [two_names] at FF)
    exact ⟨_, _, _, _, _, _, rfl, FF, News.none, by omega, by omega, by omega⟩
end Mine
end

/- Reach -/
section
open PySem PySem.W PySem.Calls PyProof.Rows
theorem Mine.restReach {prog : Program} {w : World} {A : Around} {env : Env} {Q : Flow → Shared → Prop} {E : Value → Shared → Prop} {s : Shared} (h : ∀ f s', Q f s') : wpAny (model prog w) A (execs [] env) Q E s := by
  k_with_none
  w_top off
  walk1
  exact h _ _
end
section
open PySem PySem.W PySem.Calls PyProof.Rows
namespace Mine
inductive ToldK (D : List (Addr × Obj)) (code : Int) : Option Addr → Nat → Option Int → List Nat → Prop
  | none : ToldK D code .none (if 127 < code then 119 else 46) .none []
  | some {x fa : Addr} {t1 : Tok} {mv : Value} {c : Nat} {mt : Option Int} {ys : List Value} {fl : List Nat} : (x, tupO (.str (sg c) t1) mv (.ref fa)) ∈ D → (fa, LCg.lst ys) ∈ D → MtIs mv mt → Sg ys fl → c ∈ KC → fl.Sublist FC → ToldK D code (some x) c mt fl
theorem Match.told {P : Params} {D : List (Addr × Obj)} {code : Int} {res res' : Option Addr} (M : Match P D res res') : ∃ c mt fl, Told P D code res c mt fl ∧ ToldK D code res' c mt fl := by
  cases M with
  | none => exact ⟨_, _, _, .none, .none⟩
  | some m1 m2 hS hm m3 m4 hm2 hs hc hf => exact ⟨_, _, _, .some m1 m2 hS hm, .some m3 m4 hm2 hs hc hf⟩
theorem dflt_kc (code : Int) : (if 127 < code then 119 else 46) ∈ KC := by split <;> decide
theorem back00 {s : Shared} {h₀ h' : Heap} {L : Addr} {m : Str → Option Value} {news : List (Addr × Obj)} (F : Fr h₀ L s.heap m) (N : News h₀ L s.heap news) (k : Keep [] s.heap h') : Fr h₀ L h' m ∧ News h₀ L h' news := ⟨(back0 F N k).1, (back0 F N k).2⟩
section
variable {prog : Program} {w : World} {p : Program} {loose : List Str} {mean : ExcName → Option Value} {mg mb : Str → Option Value} {dp un : Nat} {gd : Option (List Code)} {s : Shared} {cn : Str} {cs : Scope} {L a0 : Addr} {ccd : Value} {cl : List (Str × Addr)} {outer : List Env} {A₀ : Around} {base h₀ : Heap} {m : Str → Option Value} {news : List (Addr × Obj)}
theorem due_call {kr pp : Addr} {D : List (Addr × Obj)} {krs ps : List Value} {nk np : Nat} {tv0 : Value} {code : Int} {t : Tok} {res : Option Addr} {n c : Nat} {mt : Option Int} {fl : List Nat} {Q E : Value → Shared → Prop}
    (B : Below A₀ base outer h₀) (F : Fr h₀ L s.heap m) (X : (hd.heap_1 w.params).In h₀) (N : News h₀ L s.heap news) (TP : Top p loose mean mg mb h₀) (hk : cs.kind = .function) (sub : ∀ q ∈ D, q ∈ news) (mk : (kr, W.listOf krs.toArray nk) ∈ D) (mp : (pp, W.listOf ps.toArray np) ∈ D) (C : DChain prog w D krs ps code n tv0 res) (T : ToldK D code res c mt fl) (hdp : dp + 160 < 1000) (hun : un + 700 < 9900)
    (ret : ∀ h' tk x fa t1 mv ys, Fr h₀ L h' m → News h₀ L h' ((x, tupO (.str (sg c) t1) mv (.ref fa)) :: (fa, LCg.lst ys) :: news) → c ∈ KC → MtIs mv mt → Sg ys fl → fl.Sublist FC → Q (.ref x) { s with heap := h', toks := tk }) :
    wpAny (model prog w) (ktrTop dp un gd cn cs L a0 ccd cl outer) (call (.ref 233) [.ref kr, .ref pp, tv0, .int code t]) Q E s := by
  have ND := News.sub N sub
  refine due_spec (H := Here.of (D := D) (A := ktrTop dp un gd cn cs L a0 ccd cl outer) B F X ND TP rfl rfl hk) (fun q hq => (ND q hq).1) mk mp C (by omega) (by omega) ?_ ?_
  · rintro h' tk x rfl k
    have N' := (back00 F N k).2
    cases T with
    | some m1 m2 hm hs hc hf => exact ret h' tk x _ _ _ _ (back00 F N k).1 (News.one N' (sub _ m1) (News.one N' (sub _ m2) N')) hc hm hs hf
  · rintro h' tk x fa t rfl k g1 g2 f1 f2
    cases T with
    | none => exact ret h' tk x fa t _ _ (back00 F N k).1 (join2 F N k g1 g2 f1 f2) (dflt_kc code) .none .nil (List.nil_sublist _)
theorem at_call2 {a : Addr} {D : List (Addr × Obj)} {code : Int} {t : Tok} {res : Option Addr} {n c : Nat} {mt : Option Int} {fl : List Nat} {Q E : Value → Shared → Prop}
    (B : Below A₀ base outer h₀) (F : Fr h₀ L s.heap m) (X : (hd.heap_1 w.params).In h₀) (N : News h₀ L s.heap news) (TP : Top p loose mean mg mb h₀) (hk : cs.kind = .function) (sub : ∀ q ∈ D, q ∈ news) (C : Chain prog w D code n (.ref a) res) (T : Told w.params D code res c mt fl) (hdp : dp + 160 < 1000) (hun : un + 700 < 9900)
    (ret : ∀ h' tk x d mv t1 t2 t3 u1 u3, Fr h₀ L h' m → News h₀ L h' ((x, instObj 86 d) :: (d, dictOf [{ hash := PyData.keyHash w.params (Str.ofString "kind"), key := .str (Str.ofString "kind") t1, val := .str (sg c) u1 }, { hash := PyData.keyHash w.params (Str.ofString "match"), key := .str (Str.ofString "match") t2, val := mv }, { hash := PyData.keyHash w.params (Str.ofString "flags"), key := .str (Str.ofString "flags") t3, val := .str (tx fl) u3 }] 3) :: news) → SynD w.params (dictOf [{ hash := PyData.keyHash w.params (Str.ofString "kind"), key := .str (Str.ofString "kind") t1, val := .str (sg c) u1 }, { hash := PyData.keyHash w.params (Str.ofString "match"), key := .str (Str.ofString "match") t2, val := mv }, { hash := PyData.keyHash w.params (Str.ofString "flags"), key := .str (Str.ofString "flags") t3, val := .str (tx fl) u3 }] 3) (sg c) mv (tx fl) → MtIs mv mt → (@Ne Nat x d) → Q (.ref x) { s with heap := h', toks := tk }) :
    wpAny (model prog w) (ktrTop dp un gd cn cs L a0 ccd cl outer) (call (.ref 164) [.ref a, .int code t]) Q E s :=
  at_call B F X N TP hk (News.sub N sub) C T hdp hun fun h' tk x d mv t1 t2 t3 u1 u3 F' N' k hS hm ne =>
    ret h' tk x d mv t1 t2 t3 u1 u3 F' (News.one N' (.head _) (News.one N' (.tail _ (.head _)) (back00 F N k).2)) hS hm ne
theorem kind_call {a : Addr} {D : List (Addr × Obj)} {code : Int} {t : Tok} {res : Option Addr} {n c : Nat} {mt : Option Int} {fl : List Nat} {Q E : Value → Shared → Prop}
    (B : Below A₀ base outer h₀) (F : Fr h₀ L s.heap m) (X : (hd.heap_1 w.params).In h₀) (N : News h₀ L s.heap news) (TP : Top p loose mean mg mb h₀) (hk : cs.kind = .function) (sub : ∀ q ∈ D, q ∈ news) (C : Chain prog w D code n (.ref a) res) (T : Told w.params D code res c mt fl) (hdp : dp + 210 < 1000) (hun : un + 900 < 9900)
    (ret : ∀ h' tk t, Fr h₀ L h' m → News h₀ L h' news → Q (.str (sg c) t) { s with heap := h', toks := tk }) :
    wpAny (model prog w) (ktrTop dp un gd cn cs L a0 ccd cl outer) (call (.ref 171) [.ref a, .int code t]) Q E s := by
  have ND := News.sub N sub
  exact kind_spec (H := Here.of (D := D) (A := ktrTop dp un gd cn cs L a0 ccd cl outer) B F X ND TP rfl rfl hk) (fun q hq => (ND q hq).1) C T (by omega) (by omega) fun h' tk t k => ret h' tk t (back00 F N k).1 (back00 F N k).2
theorem deck_call {sc : Addr} {vs : List Value} {ns : List Int} {Q E : Value → Shared → Prop}
    (B : Below A₀ base outer h₀) (F : Fr h₀ L s.heap m) (X : (hd.heap_1 w.params).In h₀) (N : News h₀ L s.heap news) (TP : Top p loose mean mg mb h₀) (hk : cs.kind = .function) (hl : h₀.IsList sc vs.toArray) (hI : IntsAre vs ns) (hlen : ns.length ≤ 63) (hdp : dp + 110 < 1000) (hun : un + 600 < 9900)
    (ret : ∀ h' tk dk d0 o o0, Fr h₀ L h' m → News h₀ L h' ((dk, o) :: (d0, o0) :: news) → Deck d0 o o0 → LCg.Off1 dk news → LCg.Off1 d0 news → (@Ne Nat dk d0) → Q (.ref dk) { s with heap := h', toks := tk }) :
    wpAny (model prog w) (ktrTop dp un gd cn cs L a0 ccd cl outer) (call (.ref 190) [.ref sc]) Q E s :=
  deck_spec (H := Here.of (D := []) (A := ktrTop dp un gd cn cs L a0 ccd cl outer) B F X News.none TP rfl rfl hk) (by
    obtain ⟨o, ho, r⟩ := hl
    exact ⟨o, F.keep _ _ ho, r⟩) hI hlen (by omega) (by omega) fun h' tk dk d0 o o0 k g1 g2 hD f1 f2 ne => ret h' tk dk d0 o o0 (back00 F N k).1 (join2 F N k g1 g2 f1 f2) hD (off_of N f1) (off_of N f2) ne
theorem many_call {sc : Addr} {vs : List Value} {ns : List Int} {t1 t2 : Tok} {Q E : Value → Shared → Prop}
    (B : Below A₀ base outer h₀) (F : Fr h₀ L s.heap m) (X : (hd.heap_1 w.params).In h₀) (N : News h₀ L s.heap news) (TP : Top p loose mean mg mb h₀) (hk : cs.kind = .function) (hl : h₀.IsList sc vs.toArray) (hI : IntsAre vs ns) (hlen : ns.length ≤ 63) (hdp : dp + 110 < 1000) (hun : un + 600 < 9900)
    (ret : ∀ h' tk k t, Fr h₀ L h' m → News h₀ L h' news → 4 ≤ k → k ≤ 12 → Q (.int k t) { s with heap := h', toks := tk }) :
    wpAny (model prog w) (ktrTop dp un gd cn cs L a0 ccd cl outer) (call (.ref 202) [.ref sc, .int 4 t1, .int 12 t2]) Q E s :=
  many_spec (H := Here.of (D := []) (A := ktrTop dp un gd cn cs L a0 ccd cl outer) B F X News.none TP rfl rfl hk) (by
    obtain ⟨o, ho, r⟩ := hl
    exact ⟨o, F.keep _ _ ho, r⟩) hI hlen (by omega) (by omega) fun h' tk k t kp k1 k2 => ret h' tk k t (back00 F N kp).1 (back00 F N kp).2 k1 k2
/-- ours: not of the ground, not the frame, not the loop's own -/
def Ours (h₀ : Heap) (L I : Addr) (b : Addr) : Prop := h₀.get? b = none ∧ b ≠ L ∧ b ≠ I
theorem deed_call {dk d0 T KR PP I : Addr} {oI : Obj} {ts : List TabRec} {bound : Nat} {Q E : Value → Shared → Prop}
    (B : Below A₀ base outer h₀) (F : Fr h₀ L s.heap m) (X : (hd.heap_1 w.params).In h₀)  (TP : Top p loose mean mg mb h₀) (hk : cs.kind = .function) (NI : News h₀ L s.heap [(I, oI)]) (Tb : Tabs prog w s.heap (Ours h₀ L I) dk d0 T KR PP ts bound) (hpos : 1 ≤ ts.length) (hbd : bound < 5000) (hdp : dp + 210 < 1000) (hun : un + 1100 < 9900)
    (ret : ∀ h' tk ts', Fr h₀ L h' m → News h₀ L h' [(I, oI)] → Tabs prog w h' (Ours h₀ L I) dk d0 T KR PP ts' (bound + 5) → 1 ≤ ts'.length → Q .none { s with heap := h', toks := tk }) :
    wpAny (model prog w) (ktrTop dp un gd cn cs L a0 ccd cl outer) (call (.ref 240) [.ref dk, .ref T, .ref KR, .ref PP]) Q E s := by
  have ours : ∀ b ∈ [dk, d0, T, KR, PP] ++ tabA ts, Ours h₀ L I b := fun b hb => by
    rcases List.mem_append.mp hb with h | h
    · exact Tb.aw b h
    · obtain ⟨t, ht, hm⟩ := List.mem_flatMap.mp h
      obtain ⟨i, hi⟩ := List.mem_iff_getElem?.mp ht
      obtain ⟨_, _, R⟩ := Tb.each i t hi
      obtain ⟨u1, u2, u3, u4⟩ := R.aw
      simp only [List.mem_cons, List.not_mem_nil, or_false] at hm
      rcases hm with rfl | rfl | rfl | rfl
      · exact u1
      · exact u2
      · exact u3
      · exact u4
  have there : ∀ b ∈ [dk, d0, T, KR, PP] ++ tabA ts, ∃ o, s.heap.get? b = some o := fun b hb => by
    rcases List.mem_append.mp hb with h | h
    · obtain ⟨vs, n, z⟩ := Tb.lists b h
      exact ⟨_, z⟩
    · have := (tab_there Tb (objOf s.heap b) (List.mem_map_of_mem h)).1
      exact ⟨_, this⟩
  have ND : News h₀ L s.heap (([dk, d0, T, KR, PP] ++ tabA ts).map (objOf s.heap)) := fun q hq => by
    obtain ⟨b, hb, rfl⟩ := List.mem_map.mp hq
    obtain ⟨o, ho⟩ := there b hb
    have u := ours b hb
    refine ⟨?_, u.2.1, u.1⟩
    show s.heap.get? b = some ((s.heap.get? b).getD default)
    rw [ho]; rfl
  have e1 : (([dk, d0, T, KR, PP] ++ tabA ts).map (objOf s.heap)).map (·.1) = [dk, d0, T, KR, PP] ++ tabA ts := by simp [Function.comp_def]
  have H := Here.of (D := ([dk, d0, T, KR, PP] ++ tabA ts).map (objOf s.heap)) (A := ktrTop dp un gd cn cs L a0 ccd cl outer) B F X ND TP rfl rfl hk
  rw [e1] at H
  refine deed_spec (H := H) Tb hpos (fun b hb => ⟨?_, ?_, ?_⟩) hbd (by omega) (by omega) fun h' tk ts' X' hle k => ?_
  · cases z : h₀.get? b with
    | none => rfl
    | some o => have := F.keep b o z; rw [hb] at this; cases this
  · intro q
    subst q
    obtain ⟨o, ho, _⟩ := LCg.ns_obj F.ns
    rw [hb] at ho; cases ho
  · intro q
    subst q
    have := (NI _ (.head _)).1
    rw [hb] at this; cases this
  · have kI : I ∉ [dk, d0, T, KR, PP] ++ tabA ts := fun hm => (ours _ hm).2.2 rfl
    have kk : Keep ([dk, d0, T, KR, PP] ++ tabA ts) s.heap h' := fun b o z n => k b o z n
    refine ret h' tk ts' (Keep.fr kk F (fun hm => (ours _ hm).2.1 rfl) (fun a ha => (ours a ha).1)) (fun q hq => ?_) X' (Nat.le_trans hpos hle)
    rw [List.mem_singleton.mp hq]
    have := NI _ (.head _)
    exact ⟨kk _ _ this.1 kI, this.2⟩
end
end Mine
end

/- LawA -/
section
open PySem PySem.W PySem.Calls PyProof.Rows
theorem Mine.restLawA {prog : Program} {w : World} {A : Around} {env : Env} {Q : Flow → Shared → Prop} {E : Value → Shared → Prop} {s : Shared} (h : ∀ f s', Q f s') : wpAny (model prog w) A (execs [] env) Q E s := by
  k_with_none
  w_top off
  walk1
  exact h _ _
end
section
open PySem PySem.W PySem.Calls PyProof.Rows
namespace Mine
section
variable {prog : Program} {w : World} {A : Around} {E : Value → Shared → Prop} {s : Shared} {h₀ : Heap} {L l b : Addr} {news : List (Addr × Obj)}
theorem ne_empty_no {n k : Nat} {Q : Value → Shared → Prop} (N : News h₀ L s.heap news) (hm : (l, W.listOf ([] : List Value).toArray n) ∈ news) (hb : (b, W.listOf #[] k) ∈ news) (hu : A.units < cLine) (h : Q (.bool false) s) : wpAny (model prog w) A (compareOp .NotEq (.ref l) (.ref b)) Q E s := by
  have hl : s.heap.IsList l #[] := ⟨_, (N _ hm).1, rfl, n, rfl⟩
  have hb' : s.heap.IsList b #[] := ⟨_, (N _ hb).1, rfl, k, rfl⟩
  exact PySem.SeqAt.RcNeAt.lists (e := fun _ => true) hl hb' rfl hu (fun j h1 _ => absurd h1 (Nat.not_lt_zero _)) prog w E Q h
theorem ne_empty_yes {us : List Value} {n k : Nat} {Q : Value → Shared → Prop} (N : News h₀ L s.heap news) (hm : (l, W.listOf us.toArray n) ∈ news) (hb : (b, W.listOf #[] k) ∈ news) (hne : 1 ≤ us.length) (hu : A.units < cLine) (h : Q (.bool true) s) : wpAny (model prog w) A (compareOp .NotEq (.ref l) (.ref b)) Q E s := by
  have hl : s.heap.IsList l us.toArray := ⟨_, (N _ hm).1, rfl, n, rfl⟩
  have hb' : s.heap.IsList b #[] := ⟨_, (N _ hb).1, rfl, k, rfl⟩
  exact PySem.SeqAt.RcNeAt.lists_lengths hl hb' (by
    rw [bne_iff_ne, List.size_toArray]
    show us.length ≠ 0
    omega) hu prog w E Q h
theorem at_last {value slice : PySem.Expr} {us : List Value} {n : Nat} {u : Tok} {v : Value} {Q : Value → Shared → Prop} (N : News h₀ L s.heap news) (hm : (l, W.listOf us.toArray n) ∈ news) (hv : us[us.length - 1]? = some v) (hne : 1 ≤ us.length) (h : Q v s)
    (hs : subscripted slice false (.ref l) (.int (-1) u) = operate [.ref l, .int (-1) u] (getItem (.ref l) (.int (-1) u))) : wpAny (model prog w) A (subscriptTail value slice (.ref l) (.int (-1) u)) Q E s := by
  have hl : s.heap.IsList l us.toArray := ⟨_, (N _ hm).1, rfl, n, rfl⟩
  have e : ((-1 : Int) + ((us.toArray.size : Nat) : Int)).toNat = us.length - 1 := by rw [List.size_toArray]; omega
  exact tail_any hl.typeIs slot_list_getitem.lookup (wpAny_getItem_list_neg hl (by omega) (by rw [List.size_toArray]; omega) (by omega) (by rw [e]; simpa using hv) h) hs
theorem ne_same {T : Str} {t u : Tok} {Q : Value → Shared → Prop} (h : Q (.bool false) s) : wpAny (model prog w) A (compareOp .NotEq (.str T t) (.str T u)) Q E s :=
  ne_str (by rw [bne_self_eq_false]; exact h)
end
/-- a ledger that holds all tables -/
def Held (prog : Program) (w : World) (news : List (Addr × Obj)) (dk d0 T KR PP : Addr) (ts : List TabRec) (bound : Nat) : Prop := ∃ h0 U0, Tabs prog w h0 U0 dk d0 T KR PP ts bound ∧ ∀ b o, h0.get? b = some o → U0 b → (b, o) ∈ news
section
variable {prog : Program} {w : World} {h h' g : Heap} {L I dk d0 T KR PP : Addr} {ts : List TabRec} {bound : Nat} {U : Addr → Prop} {news : List (Addr × Obj)}
theorem Held.tabs (Hd : Held prog w news dk d0 T KR PP ts bound) (N : News g L h news) (off : ∀ p ∈ news, p.1 ≠ I) : Tabs prog w h (Ours g L I) dk d0 T KR PP ts bound := by
  obtain ⟨h0, U0, X, full⟩ := Hd
  exact X.move fun b o z u => ⟨(N _ (full b o z u)).1, (N _ (full b o z u)).2.2, (N _ (full b o z u)).2.1, off _ (full b o z u)⟩
theorem Tabs.held (X : Tabs prog w h (Ours g L I) dk d0 T KR PP ts bound) : ∃ news, News g L h news ∧ (∀ p ∈ news, p.1 ≠ I) ∧ Held prog w news dk d0 T KR PP ts bound := by
  obtain ⟨D, d1, d2⟩ := full_list h (Ours g L I)
  exact ⟨D, fun p hp => ⟨(d1 p hp).1, (d1 p hp).2.2.1, (d1 p hp).2.1⟩, fun p hp => (d1 p hp).2.2.2, h, _, X, d2⟩
/-- all but the five lists -/
theorem Tabs.rest (X : Tabs prog w h (Ours g L I) dk d0 T KR PP ts bound) : ∃ R, News g L h R ∧ (∀ p ∈ R, p.1 ∉ [dk, d0, T, KR, PP]) ∧ (∀ p ∈ R, p.1 ≠ I) ∧ ∀ b o, h.get? b = some o → Ours g L I b → b ∉ [dk, d0, T, KR, PP] → (b, o) ∈ R := by
  obtain ⟨D, d1, d2⟩ := full_list h (fun b => Ours g L I b ∧ b ∉ [dk, d0, T, KR, PP])
  exact ⟨D, fun p hp => ⟨(d1 p hp).1, (d1 p hp).2.1.2.1, (d1 p hp).2.1.1⟩, fun p hp => (d1 p hp).2.2, fun p hp => (d1 p hp).2.1.2.2, fun b o z u n => d2 b o z ⟨u, n⟩⟩
theorem off_five {R : List (Addr × Obj)} {b : Addr} (h : ∀ p ∈ R, p.1 ∉ [dk, d0, T, KR, PP]) (hb : b ∈ [dk, d0, T, KR, PP]) : ∀ p ∈ R, p.1 ≠ b := fun p hp e => h p hp (e ▸ hb)
theorem RelV.moveM {P : Params} {M : List Addr} {ov ok : Option Value} (ls : ∀ b ∈ M, ∃ vs n, h.get? b = some (W.listOf vs n)) (k : ∀ b o, h.get? b = some o → U b → b ∉ M → h'.get? b = some o) (R : RelV P h M U ov ok) : RelV P h' M U ov ok := by
  have inst : ∀ {x C e : Addr}, h.get? x = some (instObj C e) → x ∉ M := fun g m => by
    obtain ⟨vs, n, z⟩ := ls _ m
    exact inst_ne_list g z rfl
  have syn : ∀ {d : Addr} {od : Obj} {kk f : Str} {mv : Value}, h.get? d = some od → SynD P od kk mv f → d ∉ M := fun g hS m => by
    obtain ⟨vs, n, z⟩ := ls _ m
    exact list_ne_dict z g (syn_data hS) rfl
  cases R with
  | none => exact .none
  | «at» g1 g2 hS ux ud => exact .at (k _ _ g1 ux (inst g1)) (k _ _ g2 ud (syn g2 hS)) hS ux ud
  | syn g1 g2 hS hm g3 g4 hn hm2 hs hc hf ux ud uk uf =>
    refine .syn (k _ _ g1 ux (inst g1)) (k _ _ g2 ud (syn g2 hS)) hS hm (k _ _ g3 uk fun m => ?_) (k _ _ g4 uf hn) hn hm2 hs hc hf ux ud uk uf
    obtain ⟨vs, n, z⟩ := ls _ m
    exact tup_ne_list g3 z rfl
theorem Tabs.push (X : Tabs prog w h U dk d0 T KR PP ts bound) (hl : ts.length < 5) (k : ∀ b o, h.get? b = some o → U b → b ∉ [dk, d0, T, KR, PP] → h'.get? b = some o)
    {o' o0' oe or' ok' : Obj} {n1 n2 n3 : Nat} {a e r kd : Addr} {ps : List Value} {pv : Value} {par : Option Nat} (g1 : h'.get? dk = some o') (g2 : h'.get? d0 = some o0') (hD : Deck d0 o' o0')
    (gT : h'.get? T = some (W.listOf ((ts.map fun (t : TabRec) => Value.ref t.a) ++ [Value.ref a] : List Value).toArray n1)) (gK : h'.get? KR = some (W.listOf ((ts.map fun (t : TabRec) => Value.ref t.k) ++ [Value.ref kd] : List Value).toArray n2)) (gP : h'.get? PP = some (W.listOf (ps ++ [pv]).toArray n3))
    (pl : ps.length = ts.length) (pi : ∀ (i : Nat) (v : Value) (t : TabRec), ps[i]? = some v → ts[i]? = some t → PI v t.par) (hp : PI pv par) (hpar : ∀ j, par = some j → j < ts.length)
    (ga : h'.get? a = some (instObj 181 e)) (ge : h'.get? e = some oe) (hT : TabD w.params oe (parV ts par) r) (gr : h'.get? r = some or') (hr : or'.IsDictOf (PySem.intKind prog w) []) (gk : h'.get? kd = some ok') (hk : ok'.IsDictOf (PySem.intKind prog w) [])
    (lo : (r == sysModules) = false) (lo2 : (kd == sysModules) = false) (aw : U a ∧ U e ∧ U r ∧ U kd) (fr : ∀ t ∈ ts, t.r ≠ r ∧ t.k ≠ r) (fk : ∀ t ∈ ts, t.r ≠ kd ∧ t.k ≠ kd) (nrk : r ≠ kd) : Tabs prog w h' U dk d0 T KR PP (ts ++ [⟨a, e, r, kd, par⟩]) bound := by
  have ls := X.lists
  have offD : ∀ {b : Addr} {o : Obj}, h.get? b = some o → (∃ es n, o.data = .dict es n) → b ∉ [dk, d0, T, KR, PP] := fun z q hm => by
    obtain ⟨vs, n, y⟩ := ls _ hm
    exact list_ne_dict y z q rfl
  have offI : ∀ {b C e : Addr}, h.get? b = some (instObj C e) → b ∉ [dk, d0, T, KR, PP] := fun z hm => by
    obtain ⟨vs, n, y⟩ := ls _ hm
    exact inst_ne_list z y rfl
  refine ⟨⟨n1, ?_⟩, ⟨n2, ?_⟩, ⟨n3, ps ++ [pv], gP, ?_, ?_⟩, fun j t' hj => ?_, fun i' j' t1 t2 h1 h2 => ?_, X.five, X.aw, ?_, ⟨_, _, g1, g2, hD⟩⟩
  · rw [gT]; simp
  · rw [gK]; simp
  · simp [pl]
  · intro j v t' hv ht
    rcases app_cases hv with h1 | ⟨h1, rfl⟩
    · rcases app_cases ht with h2 | ⟨h2, rfl⟩
      · exact pi j v t' h1 h2
      · have := (List.getElem?_eq_some_iff.mp h1).1
        omega
    · rcases app_cases ht with h2 | ⟨h2, rfl⟩
      · have := (List.getElem?_eq_some_iff.mp h2).1
        omega
      · exact hp
  · rcases app_cases hj with h1 | ⟨h1, rfl⟩
    · obtain ⟨kvj, kkj, Rj⟩ := X.each j t' h1
      have hj0 : j < ts.length := (List.getElem?_eq_some_iff.mp h1).1
      obtain ⟨oe', ge', hT'⟩ := Rj.ge
      obtain ⟨orj, grj, hrj⟩ := Rj.gr
      obtain ⟨okj, gkj, hkj⟩ := Rj.gk
      obtain ⟨u1, u2, u3, u4⟩ := Rj.aw
      refine ⟨kvj, kkj, Rj.par_lt, k _ _ Rj.ga u1 (offI Rj.ga), ⟨oe', k _ _ ge' u2 (offD ge' (tab_data hT')), ?_⟩, ⟨_, k _ _ grj u3 (offD grj (isDict_data hrj)), hrj⟩, ⟨_, k _ _ gkj u4 (offD gkj (isDict_data hkj)), hkj⟩, Rj.lo, Rj.lo2, Rj.len1, Rj.len2, Rj.aw, fun code => (Rj.rel code).moveM ls k⟩
      rw [parV_app fun j' e => Nat.lt_trans (Rj.par_lt j' e) hj0]
      exact hT'
    · subst h1
      refine ⟨[], [], hpar, ga, ⟨oe, ge, ?_⟩, ⟨_, gr, hr⟩, ⟨_, gk, hk⟩, lo, lo2, Nat.zero_le _, Nat.zero_le _, aw, fun code => .none⟩
      show TabD w.params oe (parV (ts ++ _) par) r
      rw [parV_app hpar]
      exact hT
  · rcases app_cases h1 with h1 | ⟨e1, rfl⟩
    · rcases app_cases h2 with h2 | ⟨e2, rfl⟩
      · exact X.nd i' j' t1 t2 h1 h2
      · have m1 := List.mem_of_getElem? h1
        exact ⟨fun _ => ⟨(fr t1 m1).1, (fk t1 m1).2⟩, (fk t1 m1).1⟩
    · rcases app_cases h2 with h2 | ⟨e2, rfl⟩
      · have m2 := List.mem_of_getElem? h2
        exact ⟨fun _ => ⟨Ne.symm (fr t2 m2).1, Ne.symm (fk t2 m2).2⟩, Ne.symm (fr t2 m2).2⟩
      · exact ⟨fun n => absurd (e1.trans e2.symm) n, nrk⟩
  · simp; omega
end
end Mine
end

/- LawB -/
section
open PySem PySem.W PySem.Calls PyProof.Rows
theorem Mine.restLawB {prog : Program} {w : World} {A : Around} {env : Env} {Q : Flow → Shared → Prop} {E : Value → Shared → Prop} {s : Shared} (h : ∀ f s', Q f s') : wpAny (model prog w) A (execs [] env) Q E s := by
  k_with_none
  w_top off
  walk1
  exact h _ _
end
section
open PySem PySem.W PySem.Calls PyProof.Rows
namespace Mine
theorem nodup5 {dk d0 T KR PP : Addr} (h : dk ≠ d0) (h1 : @LT.lt Nat _ dk T ∧ @LT.lt Nat _ d0 T) (h2 : @LT.lt Nat _ T KR ∧ @LT.lt Nat _ dk KR ∧ @LT.lt Nat _ d0 KR) (h3 : @LT.lt Nat _ KR PP ∧ @LT.lt Nat _ T PP ∧ @LT.lt Nat _ dk PP ∧ @LT.lt Nat _ d0 PP) : [dk, d0, T, KR, PP].Nodup := by
  simp only [List.nodup_cons, List.mem_cons, List.not_mem_nil, or_false, not_or, not_false_eq_true, List.nodup_nil, and_true]
  exact ⟨⟨h, Nat.ne_of_lt h1.1, Nat.ne_of_lt h2.2.1, Nat.ne_of_lt h3.2.2.1⟩, ⟨Nat.ne_of_lt h1.2, Nat.ne_of_lt h2.2.2, Nat.ne_of_lt h3.2.2.2⟩, ⟨Nat.ne_of_lt h2.1, Nat.ne_of_lt h3.2.1⟩, Nat.ne_of_lt h3.1⟩
section
variable {prog : Program} {w : World} {h g : Heap} {L I dk d0 T KR PP : Addr} {ts : List TabRec} {bound : Nat} {news : List (Addr × Obj)}
theorem held0 {o o0 : Obj} {n1 n2 n3 : Nat} (N : News g L h news) (m1 : (dk, o) ∈ news) (m2 : (d0, o0) ∈ news) (m3 : (T, W.listOf #[] n1) ∈ news) (m4 : (KR, W.listOf #[] n2) ∈ news) (m5 : (PP, W.listOf #[] n3) ∈ news) (hD : Deck d0 o o0) (five : [dk, d0, T, KR, PP].Nodup) : Held prog w news dk d0 T KR PP [] 0 := by
  refine ⟨h, fun b => b ∈ [dk, d0, T, KR, PP], ⟨⟨_, (N _ m3).1⟩, ⟨_, (N _ m4).1⟩, ⟨_, [], (N _ m5).1, rfl, fun i v t hv ht => by simp at ht⟩, fun i t hi => by simp at hi, fun i j t t' hi hj => by simp at hi, five, fun b hb => hb, Nat.zero_le _, ⟨_, _, (N _ m1).1, (N _ m2).1, hD⟩⟩, fun b o' z hb => ?_⟩
  simp only [List.mem_cons, List.not_mem_nil, or_false] at hb
  rcases hb with rfl | rfl | rfl | rfl | rfl
  · have := (N _ m1).1
    rw [z] at this; cases this; exact m1
  · have := (N _ m2).1
    rw [z] at this; cases this; exact m2
  · have := (N _ m3).1
    rw [z] at this; cases this; exact m3
  · have := (N _ m4).1
    rw [z] at this; cases this; exact m4
  · have := (N _ m5).1
    rw [z] at this; cases this; exact m5
theorem Tabs.there5 (X : Tabs prog w h (Ours g L I) dk d0 T KR PP ts bound) {b : Addr} {o : Obj} (hb : b ∈ [dk, d0, T, KR, PP]) (z : h.get? b = some o) : h.get? b = some o ∧ b ≠ L ∧ g.get? b = none := ⟨z, (X.aw b hb).2.1, (X.aw b hb).1⟩
theorem News.five {R : List (Addr × Obj)} {o1 o2 o3 o4 o5 oI : Obj} (X : Tabs prog w h (Ours g L I) dk d0 T KR PP ts bound) (g1 : h.get? dk = some o1) (g2 : h.get? d0 = some o2) (g3 : h.get? T = some o3) (g4 : h.get? KR = some o4) (g5 : h.get? PP = some o5) (NI : News g L h ((I, oI) :: news)) (nR : News g L h R) :
    News g L h ((I, oI) :: (dk, o1) :: (d0, o2) :: (T, o3) :: (KR, o4) :: (PP, o5) :: R) := fun q hq => by
  simp only [List.mem_cons] at hq
  rcases hq with rfl | rfl | rfl | rfl | rfl | rfl | hq
  · exact NI _ (.head _)
  · exact X.there5 (by simp) g1
  · exact X.there5 (by simp) g2
  · exact X.there5 (by simp) g3
  · exact X.there5 (by simp) g4
  · exact X.there5 (by simp) g5
  · exact nR q hq
theorem nl_of {h₀ h : Heap} {L : Addr} {m : Str → Option Value} {p : Program} {loose : List Str} {mean : ExcName → Option Value} {mg mb : Str → Option Value} (_ : Fr h₀ L h m) (T : Top p loose mean mg mb h₀) : h₀.NoLimit := T.nolimit
/-- the law's names while it reads -/
def M3 (m1 : Str → Option Value) (a c d : Option Value) : Str → Option Value := fun y => if y = Str.ofString "at" then a else if y = Str.ofString "code" then c else if y = Str.ofString "due" then d else m1 y
theorem m3_code_at : Str.ofString "code" ≠ Str.ofString "at" := by decide +kernel
theorem m3_due_at : Str.ofString "due" ≠ Str.ofString "at" := by decide +kernel
theorem m3_due_code : Str.ofString "due" ≠ Str.ofString "code" := by decide +kernel
theorem set_at {m1 : Str → Option Value} {a c d v : Option Value} : (fun y => if y = Str.ofString "at" then v else M3 m1 a c d y) = M3 m1 v c d := by
  funext y
  unfold M3
  by_cases h : y = Str.ofString "at"
  · simp only [h, if_true]
  · simp only [h, if_false]
theorem set_code {m1 : Str → Option Value} {a c d v : Option Value} : (fun y => if y = Str.ofString "code" then v else M3 m1 a c d y) = M3 m1 a v d := by
  funext y
  unfold M3
  by_cases h : y = Str.ofString "code"
  · subst h; simp only [if_true, if_neg m3_code_at]
  · simp only [h, if_false]
theorem set_due {m1 : Str → Option Value} {a c d v : Option Value} : (fun y => if y = Str.ofString "due" then v else M3 m1 a c d y) = M3 m1 a c v := by
  funext y
  unfold M3
  by_cases h : y = Str.ofString "due"
  · subst h; simp only [if_true, if_neg m3_due_at, if_neg m3_due_code]
  · simp only [h, if_false]
theorem m3_none {m1 : Str → Option Value} (h1 : m1 (Str.ofString "at") = none) (h2 : m1 (Str.ofString "code") = none) (h3 : m1 (Str.ofString "due") = none) : m1 = M3 m1 none none none := by
  funext y
  unfold M3
  by_cases e1 : y = Str.ofString "at"
  · subst e1; rw [if_pos rfl, h1]
  · rw [if_neg e1]
    by_cases e2 : y = Str.ofString "code"
    · subst e2; rw [if_pos rfl, h2]
    · rw [if_neg e2]
      by_cases e3 : y = Str.ofString "due"
      · subst e3; rw [if_pos rfl, h3]
      · rw [if_neg e3]
def ReadJ (m1 : Str → Option Value) (dk d0 : Addr) (R : List (Addr × Obj)) (i : Nat) (m : Str → Option Value) (news : List (Addr × Obj)) : Prop :=
  ∃ a c d o o0, m = M3 m1 a c d ∧ news = (dk, o) :: (d0, o0) :: R ∧ Deck d0 o o0
def CodeJ (m1 : Str → Option Value) (a : Option Value) (R : List (Addr × Obj)) (i : Nat) (m : Str → Option Value) (news : List (Addr × Obj)) : Prop :=
  ∃ c d, m = M3 m1 a c d ∧ news = R
theorem step_small {r : Nat} (h : r < 2) : Builtin.Range.small 119 136 (2 + (r : Int)) = true := by
  rcases r with _ | _ | r
  · decide
  · decide
  · omega
theorem News.five5 {R : List (Addr × Obj)} {o1 o2 o3 o4 o5 : Obj} (X : Tabs prog w h (Ours g L I) dk d0 T KR PP ts bound) (g1 : h.get? dk = some o1) (g2 : h.get? d0 = some o2) (g3 : h.get? T = some o3) (g4 : h.get? KR = some o4) (g5 : h.get? PP = some o5) (nR : News g L h R) :
    News g L h ((dk, o1) :: (d0, o2) :: (T, o3) :: (KR, o4) :: (PP, o5) :: R) := fun q hq => by
  simp only [List.mem_cons] at hq
  rcases hq with rfl | rfl | rfl | rfl | rfl | hq
  · exact X.there5 (by simp) g1
  · exact X.there5 (by simp) g2
  · exact X.there5 (by simp) g3
  · exact X.there5 (by simp) g4
  · exact X.there5 (by simp) g5
  · exact nR q hq
theorem off_upd2 {I a b : Addr} {o o' p p' : Obj} {R : List (Addr × Obj)} (h : ∀ q ∈ (a, o) :: (b, p) :: R, q.1 ≠ I) : ∀ q ∈ (a, o') :: (b, p') :: R, q.1 ≠ I := fun q hq => by
  simp only [List.mem_cons] at hq
  rcases hq with rfl | rfl | hq
  · exact h (a, o) (.head _)
  · exact h (b, p) (.tail _ (.head _))
  · exact h q (.tail _ (.tail _ hq))
/-- the loops of the law -/
def LawJ (prog : Program) (w : World) (m0 : Str → Option Value) (xn : Str) (dk d0 T KR PP : Addr) (c : Nat) (q : Nat → List TabRec → Prop) (i : Nat) (m : Str → Option Value) (news : List (Addr × Obj)) : Prop :=
  ∃ vo ts, m = (fun y => if y = xn then vo else m0 y) ∧ Held prog w news dk d0 T KR PP ts (c * i) ∧ q i ts
theorem turn_end {s₁ : Shared} {h₂ : Heap} {tk : Nat} {oI : Obj} {m' : Str → Option Value} {J : (Str → Option Value) → List (Addr × Obj) → Prop} {Q : Flow → Shared → Prop} (F : Fr g L h₂ m') (NI : News g L h₂ [(I, oI)]) (X : Tabs prog w h₂ (Ours g L I) dk d0 T KR PP ts bound) (hj : ∀ news, Held prog w news dk d0 T KR PP ts bound → J m' news) :
    TurnEnd g L s₁ I oI J Q .next { s₁ with heap := h₂, toks := tk } := by
  obtain ⟨news, n1, n2, n3⟩ := X.held
  exact ⟨h₂, tk, m', news, rfl, F, fun q hq => by
    rcases List.mem_cons.mp hq with rfl | hq
    · exact NI _ (.head _)
    · exact n1 q hq, n2, hj news n3⟩
/-- what is there of the tables' own -/
theorem Tabs.old (X : Tabs prog w h (Ours g L I) dk d0 T KR PP ts bound) {r : Addr} {R : List (Addr × Obj)} (full : ∀ b o, h.get? b = some o → Ours g L I b → b ∉ [dk, d0, T, KR, PP] → (b, o) ∈ R) (off : ∀ p ∈ R, p.1 ≠ r) : ∀ t ∈ ts, t.r ≠ r ∧ t.k ≠ r := fun t ht => by
  obtain ⟨i, hi⟩ := List.mem_iff_getElem?.mp ht
  obtain ⟨_, _, Ri⟩ := X.each i t hi
  obtain ⟨o1, gr, hr⟩ := Ri.gr
  obtain ⟨o2, gk, hk⟩ := Ri.gk
  have n : ∀ {b : Addr} {o : Obj} {kv : List (Int × Value)}, h.get? b = some o → o.IsDictOf (PySem.intKind prog w) kv → b ∉ [dk, d0, T, KR, PP] := fun z q hm => by
    obtain ⟨vs, n, y⟩ := X.lists _ hm
    exact list_ne_dict y z (isDict_data q) rfl
  exact ⟨off _ (full _ _ gr Ri.aw.2.2.1 (n gr hr)), off _ (full _ _ gk Ri.aw.2.2.2 (n gk hk))⟩
theorem push_end {R : List (Addr × Obj)} {it lo' o o0 ok or' : Obj} {kd r a e l' : Addr} {n1 n2 n3 i tk : Nat} {ps : List Value} {v pv : Value} {t1 t2 : Tok} {par : Option Nat} {h' : Heap} {s₁ : Shared} {m0 : Str → Option Value} {vt : Option Value} {Q : Flow → Shared → Prop}
    (Tb : Tabs prog w h (Ours g L I) dk d0 T KR PP ts (0 * i)) (fullR : ∀ b o, h.get? b = some o → Ours g L I b → b ∉ [dk, d0, T, KR, PP] → (b, o) ∈ R) (pl : ps.length = ts.length) (pi : ∀ (i : Nat) (v : Value) (t : TabRec), ps[i]? = some v → ts[i]? = some t → PI v t.par) (hq : ts.length = i) (hl5 : ts.length < 5)
    (F : Fr g L h' (fun y => if y = Str.ofString "nth" then vt else m0 y))
    (N : News g L h' ((kd, ok) :: (r, or') :: (a, instObj 181 e) :: (e, dictOf [{ hash := PyData.keyHash w.params (Str.ofString "parent"), key := .str (Str.ofString "parent") t1, val := pv }, { hash := PyData.keyHash w.params (Str.ofString "rows"), key := .str (Str.ofString "rows") t2, val := .ref r }] 2) :: (l', lo') :: (I, it) :: (dk, o) :: (d0, o0) :: (T, W.listOf ((ts.map fun (t : TabRec) => Value.ref t.a) ++ [Value.ref a] : List Value).toArray n1) :: (KR, W.listOf ((ts.map fun (t : TabRec) => Value.ref t.k) ++ [Value.ref kd] : List Value).toArray n2) :: (PP, W.listOf (ps ++ [v]).toArray n3) :: R))
    (hD : Deck d0 o o0) (hk : ok.IsDictOf (PySem.intKind prog w) []) (hr : or'.IsDictOf (PySem.intKind prog w) []) (lo1 : (kd == sysModules) = false) (lo2 : (r == sysModules) = false)
    (lk : r < kd ∧ a < kd ∧ e < kd ∧ l' < kd ∧ I < kd ∧ dk < kd ∧ d0 < kd ∧ T < kd ∧ KR < kd ∧ PP < kd ∧ AllLt kd R) (lr : a < r ∧ e < r ∧ l' < r ∧ I < r ∧ dk < r ∧ d0 < r ∧ T < r ∧ KR < r ∧ PP < r ∧ AllLt r R) (le : l' < e ∧ I < e ∧ dk < e ∧ d0 < e ∧ T < e ∧ KR < e ∧ PP < e ∧ AllLt e R) (l2 : e < a)
    (hp : PI v par) (hpar : ∀ j, par = some j → j < ts.length) (hpv : pv = parV ts par) :
    TurnEnd g L s₁ I it (LawJ prog w m0 (Str.ofString "nth") dk d0 T KR PP 0 (fun i ts => ts.length = i) (i + 1)) Q .next { s₁ with heap := h', toks := tk } := by
  subst hpv
  have ours : ∀ {b : Addr} {ob : Obj}, (b, ob) ∈ (kd, ok) :: (r, or') :: (a, instObj 181 e) :: (e, _) :: (l', lo') :: (I, it) :: (dk, o) :: (d0, o0) :: (T, _) :: (KR, _) :: (PP, _) :: R → b ≠ I → Ours g L I b := fun hm hn => ⟨(N _ hm).2.2, (N _ hm).2.1, hn⟩
  have X2 := Tb.push hl5 (h' := h') (a := a) (e := e) (r := r) (kd := kd) (par := par) (pv := v) (ps := ps) (fun b o z u n => (N (b, o) (List.Mem.tail _ (List.Mem.tail _ (List.Mem.tail _ (List.Mem.tail _ (List.Mem.tail _ (List.Mem.tail _ (List.Mem.tail _ (List.Mem.tail _ (List.Mem.tail _ (List.Mem.tail _ (List.Mem.tail _ (fullR b o z u n))))))))))))).1)
    (N _ (by k_mem : (dk, o) ∈ _)).1 (N _ (by k_mem : (d0, o0) ∈ _)).1 hD (N _ (by k_mem : (T, _) ∈ _)).1 (N _ (by k_mem : (KR, _) ∈ _)).1 (N _ (by k_mem : (PP, _) ∈ _)).1 pl pi hp hpar (N _ (by k_mem : (a, _) ∈ _)).1 (N _ (by k_mem : (e, _) ∈ _)).1 ⟨_, _, rfl⟩ (N _ (by k_mem : (r, _) ∈ _)).1 hr (N _ (by k_mem : (kd, _) ∈ _)).1 hk lo2 lo1
    ⟨ours (by k_mem : (a, _) ∈ _) (Nat.ne_of_gt (Nat.lt_trans le.2.1 l2)), ours (by k_mem : (e, _) ∈ _) (Nat.ne_of_gt le.2.1), ours (by k_mem : (r, _) ∈ _) (Nat.ne_of_gt lr.2.2.2.1), ours (by k_mem : (kd, _) ∈ _) (Nat.ne_of_gt lk.2.2.2.2.1)⟩
    (Tb.old fullR fun p hp => Nat.ne_of_lt (allLt_mem lr.2.2.2.2.2.2.2.2.2 p hp)) (Tb.old fullR fun p hp => Nat.ne_of_lt (allLt_mem lk.2.2.2.2.2.2.2.2.2.2 p hp)) (Nat.ne_of_lt lk.1)
  refine turn_end F (fun q hq => ?_) X2 fun news hd' => ⟨_, ts ++ [⟨a, e, r, kd, par⟩], rfl, ?_, ?_⟩
  · rw [List.mem_singleton.mp hq]
    exact N _ (by k_mem : (I, it) ∈ _)
  · rw [Nat.zero_mul] at hd'
    rw [Nat.zero_mul]
    exact hd'
  · simp [hq]
end
end Mine
end

/- LawC -/
section
open PySem PySem.W PySem.Calls PyProof.Rows
theorem Mine.restLawC {prog : Program} {w : World} {A : Around} {env : Env} {Q : Flow → Shared → Prop} {E : Value → Shared → Prop} {s : Shared} (h : ∀ f s', Q f s') : wpAny (model prog w) A (execs [] env) Q E s := by
  k_with_none
  w_top off
  walk1
  exact h _ _
end
section
open PySem PySem.W PySem.Calls PyProof.Rows
namespace Mine
theorem right_call {prog : Program} {w : World} {p : Program} {loose : List Str} {mean : ExcName → Option Value} {mg mb : Str → Option Value} {dp un : Nat} {gd : Option (List Code)} {s : Shared} {cn : Str} {cs : Scope} {L a0 : Addr} {ccd : Value} {cl : List (Str × Addr)} {A₀ : Around} {h₀ : Heap} {m : Str → Option Value} {dk d0 : Addr} {o o0 : Obj} {Q E : Value → Shared → Prop}
    (B : Below A₀ h₀ [] h₀) (F : Fr h₀ L s.heap m) (X : (hd.heap_1 w.params).In h₀) (N : News h₀ L s.heap [(dk, o), (d0, o0)]) (TP : Top p loose mean mg mb h₀) (hk : cs.kind = .function) (hD : Deck d0 o o0) (hne : @Ne Nat dk d0) (hdp : dp + 210 < 1000) (hun : un + 1100 < 9900)
    (ret : ∀ h' tk o' o0', Fr h₀ L h' m → News h₀ L h' [(dk, o'), (d0, o0')] → Deck d0 o' o0' → Q (.bool true) { s with heap := h', toks := tk }) :
    wpAny (model prog w) (ktrTop dp un gd cn cs L a0 ccd cl []) (call (.ref 226) [.ref dk]) Q E s := by
  have hA : (ktrTop dp un gd cn cs L a0 ccd cl []).frames = some (envX cn cs L a0 ccd cl :: []) := rfl
  obtain ⟨FG, BG, st, _⟩ := groundX (s := { heap := s.heap }) (R := fun _ _ => True) B F N hA rfl hk
  have hL : L ∉ [dk, d0] := fun hm => by
    simp only [List.mem_cons, List.not_mem_nil, or_false] at hm
    rcases hm with e | e
    · exact (N (dk, o) (.head _)).2.1 e.symm
    · exact (N (d0, o0) (.tail _ (.head _))).2.1 e.symm
  refine right_spec (H := ⟨⟨h₀, BG⟩, X.keeps st, TP.keeps st⟩) (N (dk, o) (.head _)).1 (N (d0, o0) (.tail _ (.head _))).1 hD hne (by omega) (by omega) ⟨h₀, BG, X, TP⟩ fun h' tk o' o0' k1 k2 e1 e2 hD' => ?_
  obtain ⟨oL, es, ep, zL, dL, rL⟩ := F.ns
  obtain ⟨sl, zL'⟩ := k2 L oL zL hL (by show L ∈ [L]; exact .head _)
  refine ret h' tk o' o0' ⟨⟨_, es, ep, zL', dL, rL⟩, fun b ob z => ?_, F.above⟩ (fun q hq => ?_) hD'
  · refine k1 b ob (F.keep b ob z) (fun hm => ?_) (fun hm => ?_)
    · simp only [List.mem_cons, List.not_mem_nil, or_false] at hm
      rcases hm with rfl | rfl
      · have := (N (b, o) (.head _)).2.2
        rw [z] at this; cases this
      · have := (N (b, o0) (.tail _ (.head _))).2.2
        rw [z] at this; cases this
    · have hb : b = L := by
        have : b ∈ [L] := hm
        simpa using this
      rw [hb, Heap.get?_none_of_le F.above] at z
      cases z
  · simp only [List.mem_cons, List.not_mem_nil, or_false] at hq
    rcases hq with rfl | rfl
    · exact ⟨e1, (N (dk, o) (.head _)).2⟩
    · exact ⟨e2, (N (d0, o0) (.tail _ (.head _))).2⟩
end Mine
end

/- Law -/
section
open PySem PySem.W PySem.Calls PyProof.Rows
theorem Mine.restLaw {prog : Program} {w : World} {A : Around} {env : Env} {Q : Flow → Shared → Prop} {E : Value → Shared → Prop} {s : Shared} (h : ∀ f s', Q f s') : wpAny (model prog w) A (execs [] env) Q E s := by
  k_with_none
  w_top off
  walk1
  exact h _ _
end
section
open PySem PySem.W PySem.Calls PyProof.Rows
namespace Mine
theorem ln250 : True := by
  k_with "mine room" => row_timed "fresh" (((try simp only [depth_under_make, depth_under_kw, depth_in1, depth_deeper, units_in1, units_deeper]); (try dsimp only [cx, ktrTop]); (try simp only [cLine]); omega))
  trivial
local macro_rules | `(tactic| k_room) => `(tactic| ((try simp only [depth_under_make, depth_under_kw, depth_in1, depth_deeper]); (try dsimp only [cx, ktrTop]); (try dsimp only [recursionLimit]); omega))
local macro_rules | `(tactic| k_ne) => `(tactic| (refine neN ?_; (try dsimp only); first | with_reducible assumption | (with_reducible apply Ne.symm; with_reducible assumption)))
local macro_rules | `(tactic| k_ne) => `(tactic| (refine neN ?_; (try dsimp only); first | with_reducible exact Box.out (by assumption) | (with_reducible apply Ne.symm; with_reducible exact Box.out (by assumption))))
theorem ln251 : True := by
  k_with "call ref" => row_timed "fresh" ((k_here; (with_reducible show wpAny _ _ (call (Value.ref 197) [Value.ref _, Value.int _ _]) _ _ _); k_dflt (refine' draw_call ?k1 ?k2 ?k3 ?k4 ?k5 ?kk ?D ?ne ?U ?U2 ?d1 ?d2 ?m1 ?m2 ?_; (case k1 => k_asm); (case k2 => k_asm); (case k3 => k_asm); (case k4 => k_asm); (case k5 => k_asm); (case kk => exact rfl); (case D => with_reducible assumption); (case U => k_updF); (case U2 => (intro x9; (try dsimp only); k_updF)); (case ne => assumption); (case d1 => walk_at "mine room"); (case d2 => walk_at "mine room"); (case m1 => omega); (case m2 => omega); k_whole); intro h' tk' r' tr' o' o0' F' N' D' r0' r1'; (try dsimp only at N'); (try k_sweep); (try k_fold)))
  k_with "call ref" => row_timed "fresh" ((k_here; (with_reducible show wpAny _ _ (call (Value.ref 207) [Value.ref _]) _ _ _); k_dflt (refine' known_call ?k1 ?k2 ?k3 ?k4 ?k5 ?kk ?D ?ne ?U ?U2 ?d1 ?d2 ?_; (case k1 => k_asm); (case k2 => k_asm); (case k3 => k_asm); (case k4 => k_asm); (case k5 => k_asm); (case kk => exact rfl); (case D => with_reducible assumption); (case U => k_updF); (case U2 => (intro x9; (try dsimp only); k_updF)); (case ne => assumption); (case d1 => walk_at "mine room"); (case d2 => walk_at "mine room"); k_whole); intro h' tk' xk fk ck t1' mv' mt' ys' fl' o' o0' F' N' D' of ox nfx hck hmk hsk hfk; (try simp only [LCg.Off1, and_true] at of ox); (have hfl9 := fc_len hfk); (try dsimp only at N'); (try k_sweep); (try k_fold)))
  k_with "call ref" => row_timed "fresh" ((k_here; (with_reducible show wpAny _ _ (call (Value.ref 214) [Value.ref _, Value.ref _]) _ _ _); k_dflt (refine' text_call ?k1 ?k2 ?k3 ?k4 ?k5 ?kk ?D ?ne ?U ?U2 ?mx ?mf ?n1 ?n2 ?n3 ?n4 ?n5 ?hc ?hm ?hs ?hf ?d1 ?d2 ?_; (case k1 => k_asm); (case k2 => k_asm); (case k3 => k_asm); (case k4 => k_asm); (case k5 => k_asm); (case kk => exact rfl); (case D => with_reducible assumption); (case U => k_updF); (case U2 => (intro x9; (try dsimp only); k_updF)); (case ne => assumption); (case mx => k_mem); (case mf => k_mem); (case n1 => k_ne); (case n2 => k_ne); (case n3 => k_ne); (case n4 => k_ne); (case n5 => k_ne); (case hc => assumption); (case hm => assumption); (case hs => assumption); (case hf => assumption); (case d1 => walk_at "mine room"); (case d2 => walk_at "mine room"); k_whole); intro h' tk' T' tT' o' o0' F' N' D' hdesc; (try dsimp only at N'); (try k_sweep); (try k_fold)))
  k_with "call ref" => row_timed "fresh" ((k_here; (with_reducible show wpAny _ _ (call (Value.ref 100) [Value.str _ _]) _ _ _); k_dflt (refine' read_call ?k1 ?k2 ?k3 ?k4 ?k5 ?kk ?d1 ?d2 ?hd ?hc ?hm ?hf ?_; (case k1 => k_asm); (case k2 => k_asm); (case k3 => k_asm); (case k4 => k_asm); (case k5 => k_asm); (case kk => exact rfl); (case hd => assumption); (case hc => assumption); (case hm => exact mt_cases (by assumption)); (case hf => assumption); (case d1 => walk_at "mine room"); (case d2 => walk_at "mine room"); k_whole); intro h' tk' xs ds ods mvs Ts F' N' hS hms hTs of ox nxd; (have hTe := tx_of hTs; subst hTe; clear hTs); (try simp only [LCg.Off1, and_true] at of ox); (try dsimp only at N'); (try k_sweep); (try k_fold)))
  k_with "call ref" => row_timed "fresh" ((k_here; (with_reducible show wpAny _ _ (call (Value.ref 221) [Value.ref _]) _ _ _); k_dflt (refine' items_call ?k1 ?k2 ?k3 ?k4 ?k5 ?kk ?mx ?md ?hS ?ne ?hm ?hf ?d1 ?d2 ?_; (case k1 => k_asm); (case k2 => k_asm); (case k3 => k_asm); (case k4 => k_asm); (case k5 => k_asm); (case kk => exact rfl); (case mx => k_mem); (case md => k_mem); (case hS => assumption); (case ne => assumption); (case hm => assumption); (case hf => exact fc_len (by assumption)); (case d1 => walk_at "mine room"); (case d2 => walk_at "mine room"); k_whole); intro h' tk' ti asi F' N' hR; (try dsimp only at N'); (try k_sweep); (try k_fold)))
  k_with "call ref" => row_timed "fresh" ((k_here; (with_reducible show wpAny _ _ (call (Value.ref 107) [Value.ref _]) _ _ _); k_dflt (refine' show_call ?k1 ?k2 ?k3 ?k4 ?k5 ?kk ?mx ?md ?hS ?ne ?hm ?hc ?hf ?d1 ?d2 ?_; (case k1 => k_asm); (case k2 => k_asm); (case k3 => k_asm); (case k4 => k_asm); (case k5 => k_asm); (case kk => exact rfl); (case mx => k_mem); (case md => k_mem); (case hS => assumption); (case ne => assumption); (case hm => assumption); (case hc => assumption); (case hf => assumption); (case d1 => walk_at "mine room"); (case d2 => walk_at "mine room"); k_whole); intro h' tk' T' tT' F' N' hdesc; (try dsimp only at N'); (try k_sweep); (try k_fold)))
  k_with "call ref" => row_timed "fresh" ((k_here; (with_reducible show wpAny _ _ (call (Value.ref 114) [Value.ref _, Value.ref _]) _ _ _); k_dflt (refine' same_call ?k1 ?k2 ?k3 ?k4 ?k5 ?kk ?mx ?md ?mx2 ?md2 ?hS ?hS2 ?n1 ?n2 ?n3 ?n4 ?n5 ?n6 ?hm ?hm2 ?d1 ?d2 ?_; (case k1 => k_asm); (case k2 => k_asm); (case k3 => k_asm); (case k4 => k_asm); (case k5 => k_asm); (case kk => exact rfl); (case mx => k_mem); (case md => k_mem); (case mx2 => k_mem); (case md2 => k_mem); (case hS => assumption); (case hS2 => assumption); (case n1 => k_ne); (case n2 => k_ne); (case n3 => k_ne); (case n4 => k_ne); (case n5 => k_ne); (case n6 => k_ne); (case hm => assumption); (case hm2 => assumption); (case d1 => walk_at "mine room"); (case d2 => walk_at "mine room"); k_whole); intro h' tk' F' N'; (try dsimp only at N'); (try k_sweep); (try k_fold)))
  k_with "call ref" => row_timed "fresh" ((k_here; (with_reducible show wpAny _ _ (call (Value.ref 62) [Value.ref _, Value.str _ _]) _ _ _); k_dflt (refine' has_call ?k1 ?k2 ?k3 ?k4 ?k5 ?kk ?mx ?md ?hS ?ne ?d1 ?d2 ?_; (case k1 => k_asm); (case k2 => k_asm); (case k3 => k_asm); (case k4 => k_asm); (case k5 => k_asm); (case kk => exact rfl); (case mx => k_mem); (case md => k_mem); (case hS => exact ⟨_, _, _, _, _, rfl⟩); (case ne => assumption); (case d1 => walk_at "mine room"); (case d2 => walk_at "mine room"); k_whole); intro h' tk' F' N'; (try dsimp only at N'); (try k_sweep); (try k_fold)))
  k_with "compareOp NotEq ref ref" => row_timed "fresh" ((k_here; k_dflt (refine' items_ne ?ra ?hx ?hf ?hc ?hm ?hs ?hff ?hu ?_; (case ra => assumption); (case hx => exact News.get (by k_asm) (by k_mem)); (case hf => exact News.get (by k_asm) (by k_mem)); (case hc => assumption); (case hm => assumption); (case hs => assumption); (case hff => assumption); (case hu => walk_at "mine room"))))
  k_with "compareOp NotEq ref ref" => row_timed "fresh" ((k_here; k_dflt (refine' bools_ne ?ha ?hb ?k1 ?k2 ?hu ?_; (case ha => exact News.get (by k_asm) (by k_mem)); (case hb => exact News.get (by k_asm) (by k_mem)); (case k1 => assumption); (case k2 => assumption); (case hu => walk_at "mine room"))))
  k_with "compareOp In str ref" => row_timed "fresh" ((k_here; (with_reducible show wpAny _ _ (compareOp CmpOp.In (Value.str _ _) (Value.ref _)) _ _ _); k_dflt (refine' in_sg ?ha ?hs ?_; (case ha => exact News.get (by k_asm) (by k_mem)); (case hs => assumption))))
  k_with "compareOp In str str" => row_timed "fresh" ((k_here; (with_reducible refine in_sign ?_)))
  k_with "subscriptTail Name Name ref int" => row_timed "fresh" ((k_here; (with_reducible show wpAny _ _ (subscriptTail _ _ (Value.ref _) (Value.int _ _)) _ _ _); k_dflt (refine' at_list ?N ?m ?v ?i ?_ ?hs; (case N => k_asm); (case m => k_mem); (case v => with_reducible assumption); (case i => with_reducible assumption); (case hs => with_unfolding_all rfl))))
  k_with "subscriptTail" => row_timed "fresh" ((k_here; (with_reducible show wpAny _ _ (subscriptTail _ _ (Value.ref _) (Value.int _ _)) _ _ _); k_dflt (refine' at_list ?N ?m ?v ?i ?_ ?hs; (case N => k_asm); (case m => k_mem); (case v => with_reducible assumption); (case i => with_reducible assumption); (case hs => with_unfolding_all rfl))))
  k_with "call ref" => row_timed "fresh" ((k_here; (with_reducible show wpAny _ _ (call (Value.ref 190) [Value.ref _]) _ _ _); k_dflt (refine' deck_call ?k1 ?k2 ?k3 ?k4 ?k5 ?kk ?hl ?hI ?hlen ?d1 ?d2 ?_; (case k1 => k_asm); (case k2 => k_asm); (case k3 => k_asm); (case k4 => k_asm); (case k5 => k_asm); (case kk => exact rfl); (case hl => assumption); (case hI => assumption); (case hlen => omega); (case d1 => walk_at "mine room"); (case d2 => walk_at "mine room"); k_whole); intro h' tk' dk d0 o o0 F' N' D' odk od0 ne'; (try dsimp only at N'); (try k_fold)))
  k_with "call ref" => row_timed "fresh" ((k_here; (with_reducible show wpAny _ _ (call (Value.ref 202) [Value.ref _, Value.int _ _, Value.int _ _]) _ _ _); k_dflt (refine' many_call ?k1 ?k2 ?k3 ?k4 ?k5 ?kk ?hl ?hI ?hlen ?d1 ?d2 ?_; (case k1 => k_asm); (case k2 => k_asm); (case k3 => k_asm); (case k4 => k_asm); (case k5 => k_asm); (case kk => exact rfl); (case hl => assumption); (case hI => assumption); (case hlen => omega); (case d1 => walk_at "mine room"); (case d2 => walk_at "mine room"); k_whole); intro h' tk' kM tM F' N' kM4 kM12; (try dsimp only at N'); (try k_sweep); (try k_fold)))
  k_with "call ref" => row_timed "fresh" ((k_here; (with_reducible show wpAny _ _ (call (Value.ref 233) [Value.ref _, Value.ref _, Value.int _ _, Value.int _ _]) _ _ _); k_dflt (refine' due_call ?k1 ?k2 ?k3 ?k4 ?k5 ?kk ?sub ?mk ?mp ?C ?T ?d1 ?d2 ?_; (case k1 => k_asm); (case k2 => k_asm); (case k3 => k_asm); (case k4 => k_asm); (case k5 => k_asm); (case kk => exact rfl); (case C => with_reducible assumption); (case mk => with_reducible assumption); (case mp => with_reducible assumption); (case T => with_reducible assumption); (case sub => (intro q9 hq9; repeat (first | exact hq9 | refine List.Mem.tail _ ?_))); (case d1 => walk_at "mine room"); (case d2 => walk_at "mine room"); k_whole); intro h' tk' xd fad t1d mvd ysd F' N' hcd hmd hsd hfd; (try dsimp only at N'); (try k_sweep); (try k_fold)))
  k_with "call ref" => row_timed "fresh" ((k_here; (with_reducible show wpAny _ _ (call (Value.ref 164) [Value.ref _, Value.int _ _]) _ _ _); k_dflt (refine' at_call2 ?k1 ?k2 ?k3 ?k4 ?k5 ?kk ?sub ?C ?T ?d1 ?d2 ?_; (case k1 => k_asm); (case k2 => k_asm); (case k3 => k_asm); (case k4 => k_asm); (case k5 => k_asm); (case kk => exact rfl); (case C => with_reducible assumption); (case T => with_reducible assumption); (case sub => (intro q9 hq9; repeat (first | exact hq9 | refine List.Mem.tail _ ?_))); (case d1 => walk_at "mine room"); (case d2 => walk_at "mine room"); k_whole); intro h' tk' xa da mva ua1 ua2 ua3 ua4 ua5 F' N' hSa hma nea; (try dsimp only at N'); (try k_sweep); (try k_fold)))
  k_with "call ref" => row_timed "fresh" ((k_here; (with_reducible show wpAny _ _ (call (Value.ref 171) [Value.ref _, Value.int _ _]) _ _ _); k_dflt (refine' kind_call ?k1 ?k2 ?k3 ?k4 ?k5 ?kk ?sub ?C ?T ?d1 ?d2 ?_; (case k1 => k_asm); (case k2 => k_asm); (case k3 => k_asm); (case k4 => k_asm); (case k5 => k_asm); (case kk => exact rfl); (case C => with_reducible assumption); (case T => with_reducible assumption); (case sub => (intro q9 hq9; repeat (first | exact hq9 | refine List.Mem.tail _ ?_))); (case d1 => walk_at "mine room"); (case d2 => walk_at "mine room"); k_whole); intro h' tk' tka F' N'; (try dsimp only at N'); (try k_sweep); (try k_fold)))
  k_with "call ref" => row_timed "fresh" (((with_reducible show wpAny _ _ (call (Value.ref 240) _) _ _ _); (rename Cut 11 _ => hcut); refine Stop.out ?_))
  k_with "call ref" => row_timed "fresh" (((with_reducible show wpAny _ _ (call (Value.ref 226) _) _ _ _); (rename Cut 12 _ => hcut); refine Stop.out ?_))
  k_with "call ref" => row_timed "fresh" (((with_reducible show wpAny _ _ (call (Value.ref 233) _) _ _ _); (rename Cut 13 _ => hcut); refine Stop.out ?_))
  k_with "call ref" => row_timed "fresh" (((with_reducible show wpAny _ _ (call (Value.ref 164) _) _ _ _); (rename Cut 14 _ => hcut); refine Stop.out ?_))
  k_with "call ref" => row_timed "fresh" (((with_reducible show wpAny _ _ (call (Value.ref 221) _) _ _ _); (rename Cut 15 _ => hcut); refine Stop.out ?_))
  k_with "call ref" => row_timed "fresh" (((with_reducible show wpAny _ _ (call (Value.ref 171) _) _ _ _); (rename Cut 16 _ => hcut); refine Stop.out ?_))
  trivial
local macro_rules | `(tactic| k_all) => `(tactic| with_reducible assumption)
theorem ln276 : True := by
  k_with "exec For Name Call cons nil" => row_timed "fresh" ((k_here; (rename Fr _ _ _ _ => lF'); (with_unfolding_all refine' For_invVF lF' ?k1 ?k2 ?_; (case k1 => exact rfl); (case k2 => exact rfl); k_whole)))
  k_with "call type:range" => row_timed "fresh" (((rename Fr _ _ _ _ => F'); (rename News _ _ _ _ => N'); first | (with_unfolding_all refine range1_rows F' N' ?_; intro _ _ _ _ _ _ _ _ _) | (with_unfolding_all refine range2_rows F' N' ?_; intro _ _ _ _ _ _ _ _ _) | (with_unfolding_all refine range3_rows F' N' (by rw [bne_iff_ne]; omega) ?_; intro _ _ _ _ _ _ _ _ _)))
  k_with "eval Dict nil nil" => row_timed "fresh" ((k_here; k_dflt (refine' newDict_K ?k1 ?k2 ?nl ?_; (case k1 => k_asm); (case k2 => k_asm); (case nl => with_reducible assumption); k_whole); intro d' h' o' F' N' l1 lo' hs' fs' hi' fi'; (try k_lt l1); (try k_sweep)))
  k_with "call builtin:len" => row_timed "fresh" ((k_here; (with_reducible show wpAny _ _ (call (Value.builtin "len") [Value.ref _]) _ _ _); k_dflt (refine' len_at ?N ?m ?l ?_; (case N => k_asm); (case m => k_mem); (case l => with_reducible assumption)); intro t' k'))
  k_with "pyIter ref" => row_timed "fresh" (((rename Cut 8 _ => hcut); refine Stop.out ?_))
  k_with "call builtin:list.append" => row_timed "fresh" ((k_here; (with_reducible show wpAny _ _ (call (Value.builtin "list.append") [Value.ref _, _]) _ _ _); k_dflt (refine' append_U ?F ?N ?U ?l ?_; (case F => k_asm); (case N => k_asm); (case U => k_updF); (case l => first | with_reducible assumption | omega)); intro h' F' N'; (try dsimp only at N')))
  k_with "compareOp NotEq ref ref" => row_timed "fresh" ((k_here; k_dflt (first | (refine' ne_empty_no ?N ?m ?b ?u ?_; (case N => k_asm); (case m => k_mem); (case b => k_mem); (case u => walk_at "mine room")) | (refine' ne_empty_yes ?N ?m ?b ?l ?u ?_; (case N => k_asm); (case m => k_mem); (case b => k_mem); (case l => with_reducible assumption); (case u => walk_at "mine room")))))
  k_with "subscriptTail Name UnaryOp ref int" => row_timed "fresh" ((k_here; (with_reducible show wpAny _ _ (subscriptTail _ _ (Value.ref _) (Value.int _ _)) _ _ _); k_dflt (refine' at_last ?N ?m ?v ?i ?_ ?hs; (case N => k_asm); (case m => k_mem); (case v => with_reducible assumption); (case i => with_reducible assumption); (case hs => with_unfolding_all rfl))))
  k_with "compareOp NotEq str str" => row_timed "fresh" ((k_here; with_reducible refine ne_same ?_))
  trivial

set_option maxHeartbeats 8000000 in
theorem law_holds : PySem.Challenge.rw_np0019_01.Holds := hd (by
  k_go0
  obtain ⟨dp, un, gd, eA, hdp, hun⟩ : ∃ dp un gd, callerA = cx dp un gd [] ∧ dp + 300 < 1000 ∧ un + 2000 < 9900 := ⟨_, _, _, rfl, by decide, by decide⟩
  rw [eA] at *
  have hcut := cut 8 fun _ => True
  k_steps
  unfold Stop
  rename_i g1 g2 dk d0 g3 g4 g5 g6 g7 hne q1 e1 T g8 lt1 KR g9 lt2 PP g10 lt3 tup g11 lt4 g12 g13 g14 g15 g16 g17 g18 r9 g19 o1 o01 F1 N1 hDk r0 r1 h2 g20 g21 g22 g23 hR FF NN kp
  rename World => w
  have five : [dk, d0, T, KR, PP].Nodup := nodup5 hne lt1 lt2 lt3
  have hH := held0 (prog := PySem.Challenge.rw_np0019_01.row.prog) (w := w) NN (by k_mem : (dk, o1) ∈ _) (by k_mem : (d0, o01) ∈ _) (by k_mem : (T, _) ∈ _) (by k_mem : (KR, _) ∈ _) (by k_mem : (PP, _) ∈ _) hDk five
  obtain ⟨rn, ern⟩ := Int.eq_ofNat_of_zero_le r0
  subst ern
  have hrn : rn < 3 := by omega
  (rename Cut _ _ => hct; clear hct)
  refine iter_range (LawJ PySem.Challenge.rw_np0019_01.row.prog w _ (Str.ofString "nth") dk d0 T KR PP 0 (fun i ts => ts.length = i)) (n := rn + 1) rfl hR (small_one (by omega) (by omega) (by omega) (by omega)) (by rw [rangeSize_nat]; omega) FF NN ⟨none, [], none_name rfl, hH, rfl⟩ ?turn ?fin
  case turn =>
    clear hR hH kp N1 F1
    have FB := Box.mk FF
    clear NN FF FB
    repeat (rename Fr _ _ _ _ => hz; clear hz)
    repeat (rename News _ _ _ _ => hz; clear hz)
    clear lt1 lt2 lt3 lt4 hne
    rintro i m news t h tk I hi ⟨vo, ts, rfl, hH, hq⟩ F N off
    have Tb := Held.tabs hH (fun p hp => N p (.tail _ hp)) off
    obtain ⟨R, nR, fiveR, offI, fullR⟩ := Tb.rest
    obtain ⟨nT, gT⟩ := Tb.gT
    obtain ⟨nK, gK⟩ := Tb.gK
    obtain ⟨nP, ps, gP, pl, pi⟩ := Tb.gP
    obtain ⟨o, o0, gdk, gd0, hDk9⟩ := Tb.gd
    have N2 := News.five Tb gdk gd0 gT gK gP N nR
    clear N
    rw [one_name] at F
    have hnl := nl_of F (by assumption)
    have five9 := Tb.five
    simp only [List.nodup_cons, List.mem_cons, List.not_mem_nil, or_false, not_or, not_false_eq_true, List.nodup_nil, and_true] at five9
    obtain ⟨⟨n1, n2, n3, n4⟩, ⟨n5, n6, n7⟩, ⟨n8, n9⟩, n10⟩ := five9
    have q1 : Box (@Ne Nat dk T) := ⟨n2⟩
    have q2 : Box (@Ne Nat dk KR) := ⟨n3⟩
    have q3 : Box (@Ne Nat dk PP) := ⟨n4⟩
    have q4 : Box (@Ne Nat d0 T) := ⟨n5⟩
    have q5 : Box (@Ne Nat d0 KR) := ⟨n6⟩
    have q6 : Box (@Ne Nat d0 PP) := ⟨n7⟩
    have q7 : Box (@Ne Nat T KR) := ⟨n8⟩
    have q8 : Box (@Ne Nat T PP) := ⟨n9⟩
    have q9 : Box (@Ne Nat KR PP) := ⟨n10⟩
    have q10 : Box (@Ne Nat T I) := ⟨(Tb.aw T (by simp)).2.2⟩
    have q11 : Box (@Ne Nat KR I) := ⟨(Tb.aw KR (by simp)).2.2⟩
    have q12 : Box (@Ne Nat PP I) := ⟨(Tb.aw PP (by simp)).2.2⟩
    clear n1 n2 n3 n4 n5 n6 n7 n8 n9 n10
    have aT := off_five fiveR (b := T) (by simp)
    have aK := off_five fiveR (b := KR) (by simp)
    have aP := off_five fiveR (b := PP) (by simp)
    have nRB := Box.mk nR
    have offB := Box.mk off
    clear nR off
    have hl5 : ts.length < 5 := by omega
    have hlT : (ts.map fun t => Value.ref t.a).length < 1000 := by rw [List.length_map]; omega
    have hlK : (ts.map fun t => Value.ref t.k).length < 1000 := by rw [List.length_map]; omega
    have hlP : ps.length < 1000 := by omega
    cases i with
    | zero =>
      obtain rfl := List.length_eq_zero_iff.mp hq
      obtain rfl := List.length_eq_zero_iff.mp pl
      have e0 : (0 : Int) + ((0 : Nat) : Int) * 1 = 0 := rfl
      rw [e0] at F
      k_steps
      (rename Fr _ _ _ _ => FF; rename News _ _ _ _ => NN; rename Obj.IsDictOf (PySem.intKind _ _) _ [] => hkA; have hk := Box.mk hkA; clear hkA; rename Obj.IsDictOf (PySem.intKind _ _) _ [] => hr; rename (_ == sysModules) = false => loA; have lo1 := Box.mk loA; clear loA; rename (_ == sysModules) = false => lo2; rename (And (@LT.lt _ _ _ _) _) => lk; have lkB := Box.mk lk; clear lk; rename (And (@LT.lt _ _ _ _) _) => lr; have lrB := Box.mk lr; clear lr; rename (And (@LT.lt _ _ _ _) _) => le; rename (@LT.lt _ _ _ _) => l2)
      exact push_end Tb fullR rfl pi rfl hl5 FF NN hDk9 hk.out hr lo1.out lo2 lkB.out lrB.out le l2 (par := none) .none (fun j e => by cases e) rfl
    | succ j =>
      have e0 : (0 : Int) + ((j + 1 : Nat) : Int) * 1 = (j : Int) + 1 := by omega
      rw [e0] at F
      have hj : j < ts.length := by omega
      obtain ⟨tl, htl⟩ : ∃ t, ts[j]? = some t := ⟨_, List.getElem?_eq_getElem hj⟩
      have hla : (ts.map fun t => Value.ref t.a)[(ts.map fun t => Value.ref t.a).length - 1]? = some (.ref tl.a) := by
        rw [List.length_map, hq, Nat.add_sub_cancel, List.getElem?_map, htl]; rfl
      have hl1 : 1 ≤ (ts.map fun t => Value.ref t.a).length := by rw [List.length_map]; omega
      k_steps
      (rename Fr _ _ _ _ => FF; rename News _ _ _ _ => NN; rename Obj.IsDictOf (PySem.intKind _ _) _ [] => hkA; have hk := Box.mk hkA; clear hkA; rename Obj.IsDictOf (PySem.intKind _ _) _ [] => hr; rename (_ == sysModules) = false => loA; have lo1 := Box.mk loA; clear loA; rename (_ == sysModules) = false => lo2; rename (And (@LT.lt _ _ _ _) _) => lk; have lkB := Box.mk lk; clear lk; rename (And (@LT.lt _ _ _ _) _) => lr; have lrB := Box.mk lr; clear lr; rename (And (@LT.lt _ _ _ _) _) => le; rename (@LT.lt _ _ _ _) => l2)
      have e1 : (j : Int) + 1 - 1 = (j : Int) := by omega
      rw [e1] at NN
      exact push_end Tb fullR pl pi hq hl5 FF NN hDk9 hk.out hr lo1.out lo2 lkB.out lrB.out le l2 (par := some j) (.some j _) (fun j' e => by cases e; exact hj) (by simp only [parV, htl])
  case fin =>
    clear hR hH kp N1 F1 five
    clear lt1 lt2 lt3 lt4 hne hDk
    clear FF NN
    repeat (rename Fr _ _ _ _ => hz; clear hz)
    repeat (rename News _ _ _ _ => hz; clear hz)
    rintro m news h tk ⟨vo, ts, rfl, hH, hq⟩ F N
    (try dsimp only)
    have hcut := cut 8 fun _ => True
    k_steps
    unfold Stop
    (rename Cut _ _ => hct; clear hct)
    (rename Fr _ _ _ _ => FF; rename News _ _ _ _ => NN; rename IsRange _ _ _ _ _ _ _ _ => hR)
    rename_i kM tM F1 N1 kM4 kM12 h3 g30 g31 g32 g33 kp
    obtain ⟨kn, ekn⟩ := Int.eq_ofNat_of_zero_le (Int.le_trans (by decide : (0:Int) ≤ 4) kM4)
    subst ekn
    have hkn : kn ≤ 12 := by omega
    have NB := Box.mk NN
    have FB := Box.mk FF
    clear FF NN
    refine iter_range (LawJ PySem.Challenge.rw_np0019_01.row.prog w _ (Str.ofString "nth") dk d0 T KR PP 5 (fun i ts => 1 ≤ ts.length)) (n := kn) rfl hR (small_one (by omega) (by omega) (by omega) (by omega)) (by rw [rangeSize_nat]; omega) FB.out NB.out ⟨vo, ts, rfl, (by rw [Nat.zero_mul] at hH; exact hH), (by show 1 ≤ ts.length; rw [hq]; exact Nat.le_add_left 1 rn)⟩ ?turn ?fin
    case turn =>
      clear hR NB FB
      repeat (rename Fr _ _ _ _ => hz; clear hz)
      repeat (rename News _ _ _ _ => hz; clear hz)
      rintro i m news t h tk I hi ⟨vo, ts, rfl, hH, hq⟩ F N off
      have Tb := Held.tabs hH (fun p hp => N p (.tail _ hp)) off
      clear hH
      rw [one_name] at F
      have hcut := cut 11 fun _ => True
      k_steps
      unfold Stop
      (rename Cut _ _ => hct; clear hct)
      (rename Fr _ _ _ _ => FF; rename News _ _ _ _ => NN)
      have NI := News.one NN (.head _) News.none
      k_dflt (refine' deed_call ?k1 ?k2 ?k3 ?k5 ?kk ?NI ?Tb ?hp ?hb ?d1 ?d2 ?_)
      (case k1 => k_asm)
      (case k2 => k_asm)
      (case k3 => k_asm)
      (case k5 => k_asm)
      (case kk => exact rfl)
      (case NI => exact NI)
      (case Tb => exact Tb)
      (case hp => exact hq)
      (case hb => omega)
      (case d1 => walk_at "mine room")
      (case d2 => walk_at "mine room")
      clear Tb NI
      intro h' tk' ts' F' N' T' hl'
      (try k_sweep)
      (try k_fold)
      k_steps
      exact turn_end F' N' T' (fun news hd' => ⟨_, ts', rfl, hd', hl'⟩)
    case fin =>
      clear hR NB FB
      repeat (rename Fr _ _ _ _ => hz; clear hz)
      repeat (rename News _ _ _ _ => hz; clear hz)
      rintro m news h tk ⟨vo, ts, rfl, hH, hq⟩ F N
      (try dsimp only)
      have Tb := Held.tabs hH N (fun p hp => (N p hp).2.1)
      clear hH
      obtain ⟨R, nR, fiveR, offI, fullR⟩ := Tb.rest
      obtain ⟨nT, gT⟩ := Tb.gT
      obtain ⟨nK, gK⟩ := Tb.gK
      obtain ⟨nP, ps, gP, pl, pi⟩ := Tb.gP
      obtain ⟨o, o0, gdk, gd0, hDk⟩ := Tb.gd
      have five9 := Tb.five
      simp only [List.nodup_cons, List.mem_cons, List.not_mem_nil, or_false, not_or, not_false_eq_true, List.nodup_nil, and_true] at five9
      obtain ⟨⟨n1, n2, n3, n4⟩, ⟨n5, n6, n7⟩, _⟩ := five9
      have hne : @Ne Nat dk d0 := n1
      have q1 : Box (@Ne Nat dk T) := ⟨n2⟩
      have q2 : Box (@Ne Nat dk KR) := ⟨n3⟩
      have q3 : Box (@Ne Nat dk PP) := ⟨n4⟩
      have q4 : Box (@Ne Nat d0 T) := ⟨n5⟩
      have q5 : Box (@Ne Nat d0 KR) := ⟨n6⟩
      have q6 : Box (@Ne Nat d0 PP) := ⟨n7⟩
      have q7 : Box (@Ne Nat dk d0) := ⟨n1⟩
      clear n1 n2 n3 n4 n5 n6 n7
      have adk := off_five fiveR (b := dk) (by simp)
      have ad0 := off_five fiveR (b := d0) (by simp)
      have N2 := News.five5 Tb gdk gd0 gT gK gP nR
      have CH := Tb.chains (D := (KR, W.listOf (ts.map fun t => Value.ref t.k).toArray nK) :: (PP, W.listOf ps.toArray nP) :: R) (fun b o z u n => .tail _ (.tail _ (fullR b o z u n))) (n3 := 0) pl pi
      have hlen := Tb.len
      have hlT : (ts.map fun t => Value.ref t.a).length < 1000 := by rw [List.length_map]; omega
      clear Tb N nR fullR gT gK gP gdk gd0 fiveR offI
      have hcut := cut 8 fun _ => True
      k_steps
      unfold Stop
      (rename Cut _ _ => hct; clear hct)
      (rename Fr _ _ _ _ => FF; rename News _ _ _ _ => NN; rename IsRange _ _ _ _ _ _ _ _ => hR)
      refine iter_range (ReadJ _ dk d0 ((T, W.listOf (ts.map fun t => Value.ref t.a).toArray nT) :: (KR, W.listOf (ts.map fun t => Value.ref t.k).toArray nK) :: (PP, W.listOf ps.toArray nP) :: R)) (n := (ts.map fun t => Value.ref t.a).length) rfl hR (small_one (by omega) (by omega) (by omega) (by omega)) (by rw [rangeSize_nat]; omega) FF NN ⟨none, none, none, o, o0, m3_none rfl rfl rfl, rfl, hDk⟩ ?turn ?fin
      case turn =>
        clear hR FF NN hDk
        repeat (rename Fr _ _ _ _ => hz; clear hz)
        repeat (rename News _ _ _ _ => hz; clear hz)
        rintro i m news tok h tk I hi ⟨a, c, d, o, o0, rfl, rfl, hDk⟩ F N off
        have e0 : (0:Int) + (i:Int) * 1 = i := by omega
        rw [e0, set_at] at F
        unfold M3 at F
        have q10 : Box (@Ne Nat dk I) := ⟨off (dk, o) (.head _)⟩
        have q11 : Box (@Ne Nat d0 I) := ⟨off (d0, o0) (.tail _ (.head _))⟩
        have offB := Box.mk off
        clear off
        have hcut := cut 8 fun _ => True
        k_steps
        unfold Stop
        (rename Cut _ _ => hct; clear hct)
        (rename Fr _ _ _ _ => FF; rename News _ _ _ _ => NN; rename IsRange _ _ _ _ _ _ _ _ => hR; rename Deck _ _ _ => hDk8; rename ((0:Int) ≤ _) => r0; rename (_ < (2:Int)) => r1)
        obtain ⟨rn, ern⟩ := Int.eq_ofNat_of_zero_le r0
        subst ern
        have hrn : rn < 2 := by omega
        have hi0 : i < ts.length := by rw [List.length_map] at hi; exact hi
        obtain ⟨t, hti⟩ : ∃ t, ts[i]? = some t := ⟨_, List.getElem?_eq_getElem hi0⟩
        have hTa : (ts.map fun t => Value.ref t.a)[i]? = some (.ref t.a) := by rw [List.getElem?_map, hti]; rfl
        have hi3 : i < 1000 := by omega
        refine iter_range (CodeJ _ (some (.int (i : Int) tok)) _) (n := (Builtin.Range.rangeSize 119 136 (2 + (rn : Int))).toNat) rfl hR (step_small hrn) (rangeSize_toNat _ _ _) FF NN ⟨c, d, rfl, rfl⟩ ?turn4 ?fin4
        case turn4 =>
          clear hR FF NN
          repeat (rename Fr _ _ _ _ => hz; clear hz)
          repeat (rename News _ _ _ _ => hz; clear hz)
          clear c d
          rintro j m news tok2 h tk I2 hj ⟨c, d, rfl, rfl⟩ F N off
          generalize (119 : Int) + (j : Int) * (2 + (rn : Int)) = code at F
          rw [set_code] at F
          unfold M3 at F
          obtain ⟨n, n', res, res', C, C', M⟩ := CH code (i + 1) i t tok (Nat.lt_succ_self _) hti
          obtain ⟨c9, mt9, fl9, T9, K9⟩ := M.told (code := code)
          obtain ⟨e, oe, pv, r, m1, m2, hT⟩ := C.tab
          obtain ⟨u1, u2, rfl⟩ := hT
          have N3 := News.one N (.tail _ (.tail _ (.tail _ (.tail _ (.tail _ m1))))) (News.one N (.tail _ (.tail _ (.tail _ (.tail _ (.tail _ m2))))) N)
          have mk9 : (KR, W.listOf (ts.map fun t => Value.ref t.k).toArray nK) ∈ (KR, W.listOf (ts.map fun t => Value.ref t.k).toArray nK) :: (PP, W.listOf ps.toArray nP) :: R := .head _
          have mp9 : (PP, W.listOf ps.toArray nP) ∈ (KR, W.listOf (ts.map fun t => Value.ref t.k).toArray nK) :: (PP, W.listOf ps.toArray nP) :: R := .tail _ (.head _)
          have offC := Box.mk off
          clear off N
          k_steps
          (rename Fr _ _ _ _ => FF; rename News _ _ _ _ => NN)
          exact ⟨_, _, _, _, rfl, FF, fun q hq => NN q (.tail _ (.tail _ (.tail _ (.tail _ (.tail _ (.tail _ hq)))))), offC.out, _, _, set_due, rfl⟩
        case fin4 =>
          clear hR FF NN
          repeat (rename Fr _ _ _ _ => hz; clear hz)
          repeat (rename News _ _ _ _ => hz; clear hz)
          rintro m news h tk ⟨c, d, rfl, rfl⟩ F N
          (try dsimp only)
          k_steps
          exact ⟨_, _, _, _, rfl, F, N, off_upd2 offB.out, _, _, _, _, _, rfl, rfl, hDk8⟩
      case fin =>
        clear hR FF NN hDk
        repeat (rename Fr _ _ _ _ => hz; clear hz)
        repeat (rename News _ _ _ _ => hz; clear hz)
        clear CH
        rintro m news h tk ⟨a, c, d, o, o0, rfl, rfl, hDk⟩ F N
        unfold M3 at F
        (try dsimp only)
        have hcut := cut 12 fun _ => True
        k_steps
        unfold Stop
        (rename Fr _ _ _ _ => FF; rename News _ _ _ _ => NN; rename Deck _ _ _ => hDk)
        have N2 := News.one NN (q := (dk, _)) (by k_mem) (News.one NN (q := (d0, _)) (by k_mem) News.none)
        k_dflt (refine' right_call ?k1 ?k2 ?k3 ?k4 ?k5 ?kk ?D ?ne ?d1 ?d2 ?_)
        (case k1 => k_asm)
        (case k2 => exact FF)
        (case k3 => k_asm)
        (case k4 => exact N2)
        (case k5 => k_asm)
        (case kk => exact rfl)
        (case D => exact hDk)
        (case ne => exact hne)
        (case d1 => walk_at "mine room")
        (case d2 => walk_at "mine room")
        clear FF NN N2 hDk
        intro h' tk' o' o0' F' N' D'
        (try k_sweep)
        (try k_fold)
        k_steps
        unfold Stop
        (rename Fr _ _ _ _ => FF; rename News _ _ _ _ => NN; rename Deck _ _ _ => hDk)
        have N2 := News.one NN (q := (dk, _)) (by k_mem) (News.one NN (q := (d0, _)) (by k_mem) News.none)
        k_dflt (refine' right_call ?k1 ?k2 ?k3 ?k4 ?k5 ?kk ?D ?ne ?d1 ?d2 ?_)
        (case k1 => k_asm)
        (case k2 => exact FF)
        (case k3 => k_asm)
        (case k4 => exact N2)
        (case k5 => k_asm)
        (case kk => exact rfl)
        (case D => exact hDk)
        (case ne => exact hne)
        (case d1 => walk_at "mine room")
        (case d2 => walk_at "mine room")
        clear FF NN N2 hDk
        intro h' tk' o' o0' F' N' D'
        (try k_sweep)
        (try k_fold)
        k_steps
)
end Mine
end

end

set_option maxHeartbeats 8000000 in
theorem PySem.Challenge.cw_np0019_01_holds : PySem.Challenge.rw_np0019_01.Holds := by
  exact Mine.law_holds
