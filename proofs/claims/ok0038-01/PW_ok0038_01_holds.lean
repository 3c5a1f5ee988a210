import PyProof.Rows.All
import Wide.All
import OpenK.AllK
import Wide.FinOn
import Lean
import PySem.Challenge.RW_ok0038_01
set_option Elab.async false
set_option linter.unusedVariables false
set_option compiler.extract_closed false
set_option linter.unusedSimpArgs false
section
open PySem PySem.W PyProof.Rows
set_option maxRecDepth 100000
set_option maxHeartbeats 8000000
open_top hdA for PySem.Challenge.rw_ok0038_01
end

/-! ## part Base1 -/
section
open PySem PySem.W PySem.Calls PyProof.Rows
set_option maxRecDepth 100000
namespace Mine

/-- all that stands in the one heap stands in the other, but for the named places -/
def KeepBut (W : List Addr) (h h' : Heap) : Prop := ∀ b o, b ∉ W → h.get? b = some o → h'.get? b = some o

theorem KeepBut.fr {W : List Addr} {h₀ h h' : Heap} {L : Addr} {m : Str → Option Value} (k : KeepBut W h h') (F : Fr h₀ L h m) (hL : L ∉ W) (hW : ∀ b ∈ W, h₀.get? b = none) : Fr h₀ L h' m := by
  obtain ⟨oL, es, ep, hL', hLd, hLk, hLf⟩ := F.ns
  refine ⟨⟨oL, es, ep, k _ _ hL hL', hLd, hLk, hLf⟩, fun b o e => k b o (fun q => ?_) (F.keep b o e), F.above⟩
  have := hW b q
  rw [e] at this; cases this

theorem newsW {h₀ h : Heap} {L : Addr} {news : List (Addr × Obj)} (N : News h₀ L h news) : L ∉ news.map (·.1) ∧ ∀ b ∈ news.map (·.1), h₀.get? b = none := by
  refine ⟨fun q => ?_, fun b q => ?_⟩
  · obtain ⟨p, hp, e⟩ := List.mem_map.mp q
    exact (N p hp).2.1 e
  · obtain ⟨p, hp, rfl⟩ := List.mem_map.mp q
    exact (N p hp).2.2

theorem KeepBut.frN {W : List Addr} {h₀ h h' : Heap} {L : Addr} {m : Str → Option Value} {news : List (Addr × Obj)} (k : KeepBut W h h') (F : Fr h₀ L h m) (N : News h₀ L h news) (hW : ∀ b ∈ W, b ∈ news.map (·.1)) : Fr h₀ L h' m :=
  k.fr F (fun q => (newsW N).1 (hW _ q)) fun b q => (newsW N).2 b (hW b q)

section
variable {prog : Program} {w : World} {A₀ A : Around} {s : Shared} {base h₀ : Heap} {outer : List Env} {L : Addr} {m : Str → Option Value} {env : Env} {news : List (Addr × Obj)} {K : Frag} {mg mb : Str → Option Value} {p : Program} {loose : List Str} {mean : ExcName → Option Value}
  {R : Result → Shared → Prop} {name qual : Str} {params : Arguments} {body : List Stmt} {scope : Scope} {dV kV doc pm cdv ct oc : Value} {an od : Option Addr} {osl : Array (Option Value)} {f : Addr} {args : Args} {binds : List (Str × Value)}

/-- entering a def, all but the ledger frozen: the frozen heap is told -/
theorem enterG (B : Below A₀ base outer h₀) (F : Fr h₀ L s.heap m) (X₀ : K.In h₀) (N : News h₀ L s.heap news) (T : Top p loose mean mg mb h₀) (hA : A.frames = some (env :: outer)) (hf : env.frame = some L) (hke : env.scope.kind = .function)
    (ho : K.lookup f = some ⟨oc, od, .func (fnOf name qual params body scope dV kV doc pm an cdv ct), osl⟩) (hcd : codeIn K cdv qual = true) (hroom : A.depth < recursionLimit)
    (hbind : BindsTo s (fnOf name qual params body scope dV kV doc pm an cdv ct) args binds) (hloc : ∀ y ∈ binds, scope.names.lookup y.1 = some .local)
    (h : ∀ g L' h₁, KeepBut (news.map (·.1)) s.heap g → s.heap.objs.size ≤ L' → Fr h₀ L g m → Fr g L' h₁ (fun y => binds.reverse.lookup y) → News g L' h₁ news → Below A base (env :: outer) g → K.In g → Top p loose mean mg mb g →
      wpAny (model prog w) (A.deeper (envOf qual scope L' f cdv)) (execs body (envOf qual scope L' f cdv))
        (fun fl s' => R (.ok (.ret (match fl with | .ret v => v | _ => .none))) s')
        (fun e s' => wpAny (model prog w) (A.deeper (envOf qual scope L' f cdv)) (leaving (envOf qual scope L' f cdv) e) (fun _ s'' => R (.error e) s'') (fun e' s'' => R (.error e') s'') s')
        { s with heap := h₁, toks := s.toks + binds.length })
    (hco : scope.isCoroutine = false) (hgen : scope.isGenerator = false) (hk : scope.kind = .function)
    (hcell : ∀ x ∈ scope.names, x.2 ≠ .cell) : codeAny (model prog w) A (.call (.ref f) args) R s := by
  obtain ⟨FG, BG, st, _⟩ := groundX (R := R) B F N hA hf hke
  refine codeAny_call_def (fd := fnOf name qual params body scope dV kV doc pm an cdv ct) (body := body) (binds := binds) hroom ((X₀.keeps F.keep) _ _ ho) rfl (T.nolimit.keeps F.keep) (codeRec_of (X₀.keeps F.keep) hcd) rfl hbind hcell hloc (fun h₁ hns hk₁ => ?_) hco hgen hk
  exact h _ s.heap.objs.size h₁ (fun b o hb e => hideAll_get _ e hb) (Nat.le_refl _) FG ⟨hns, fun b o e => hk₁ b o (of_hideAll _ e), Nat.le_of_eq (hideAll_size _ _)⟩
    (fun p hp => ⟨hk₁ _ _ (N p hp).1, Nat.ne_of_lt (Heap.lt_size (N p hp).1), hideAll_none _ (List.mem_map_of_mem hp)⟩) BG (X₀.keeps st) (T.keeps st)
end
end Mine
namespace Mine
section
variable {prog : Program} {w : World} {A₀ A : Around} {s : Shared} {base h₀ : Heap} {outer : List Env} {L : Addr} {m : Str → Option Value} {env : Env} {news : List (Addr × Obj)} {K : Frag} {mg mb : Str → Option Value} {p : Program} {loose : List Str} {mean : ExcName → Option Value}
  {R : Result → Shared → Prop} {name qual : Str} {params : Arguments} {body : List Stmt} {scope : Scope} {dV kV doc pm cdv ct oc : Value} {an od : Option Addr} {osl : Array (Option Value)} {f : Addr} {args : Args} {binds : List (Str × Value)}

/-- the same for a def whose locals are captured -/
theorem enterGC (B : Below A₀ base outer h₀) (F : Fr h₀ L s.heap m) (X₀ : K.In h₀) (N : News h₀ L s.heap news) (T : Top p loose mean mg mb h₀) (hA : A.frames = some (env :: outer)) (hf : env.frame = some L) (hke : env.scope.kind = .function)
    (ho : K.lookup f = some ⟨oc, od, .func (fnOf name qual params body scope dV kV doc pm an cdv ct), osl⟩) (hcd : codeIn K cdv qual = true) (hroom : A.depth < recursionLimit)
    (hbind : BindsTo s (fnOf name qual params body scope dV kV doc pm an cdv ct) args binds) (hkind : (binds.all fun y => scope.names.lookup y.1 == some .local || scope.names.lookup y.1 == some .cell) = true)
    (hnd : ((cellsFrom 0 scope.names []).map (·.1)).Nodup)
    (h : ∀ g L' h₁ tk cells, KeepBut (news.map (·.1)) s.heap g → s.heap.objs.size ≤ L' → Fr h₀ L g m → Fr g L' h₁ (bindL (envOfC qual scope L' f cdv).kindOf binds fun _ => none) → News g L' h₁ (cells ++ news) →
      CellsAre (bindC (envOfC qual scope L' f cdv).kindOf binds fun _ => none) (cellsFrom (L' + 1) scope.names []) cells → Below A base (env :: outer) g → K.In g → Top p loose mean mg mb g → (∀ p ∈ news, p.1 < L') →
      wpAny (model prog w) (A.deeper (envOfC qual scope L' f cdv)) (execs body (envOfC qual scope L' f cdv))
        (fun fl s' => R (.ok (.ret (match fl with | .ret v => v | _ => .none))) s')
        (fun e s' => wpAny (model prog w) (A.deeper (envOfC qual scope L' f cdv)) (leaving (envOfC qual scope L' f cdv) e) (fun _ s'' => R (.error e) s'') (fun e' s'' => R (.error e') s'') s')
        { s with heap := h₁, toks := tk })
    (hco : scope.isCoroutine = false) (hgen : scope.isGenerator = false) (hk : scope.kind = .function) : codeAny (model prog w) A (.call (.ref f) args) R s := by
  obtain ⟨FG, BG, st, _⟩ := groundX (R := R) B F N hA hf hke
  refine codeAny_call_function (fd := fnOf name qual params body scope dV kV doc pm an cdv ct) hroom ((X₀.keeps F.keep) _ _ ho) rfl hco hgen rfl (codeRec_of (X₀.keeps F.keep) hcd) (hbind _ _ _ _ ?_)
  refine wpAny_newFunctionEnv_cells hk (kindsX hkind _) fun env' he s' x => ?_
  subst he
  refine ⟨(T.nolimit.keeps F.keep).keeps x.toInCall.keep, codeAny_func ?_⟩
  obtain ⟨h₁, tk, rfl, _⟩ := x.done
  have hk₁ := x.toInCall.keep
  obtain ⟨cells, NC, Y⟩ := Cl.news (h₀ := s.heap) (Nat.le_refl _) fun n c hm => ⟨x.cell n c (lookup_of_mem_nodup (cellsFrom_names scope.names 0 (s.heap.objs.size + 1) [] [] rfl ▸ hnd) hm), x.above n c hm⟩
  refine h _ s.heap.objs.size h₁ tk cells (fun b o hb e => hideAll_get _ e hb) (Nat.le_refl _) FG ⟨x.toInCall.ns, fun b o e => hk₁ b o (of_hideAll _ e), Nat.le_of_eq (hideAll_size _ _)⟩ (fun p hp => ?_) Y BG (X₀.keeps st) (T.keeps st) (fun p hp => Heap.lt_size (N p hp).1)
  rcases List.mem_append.mp hp with hp | hp
  · refine ⟨(NC p hp).1, (NC p hp).2.1, ?_⟩
    cases q : (hideAll s.heap (news.map (·.1))).get? p.1 with
    | none => rfl
    | some o => have := of_hideAll _ q; rw [(NC p hp).2.2] at this; cases this
  · exact ⟨hk₁ _ _ (N p hp).1, Nat.ne_of_lt (Heap.lt_size (N p hp).1), hideAll_none _ (List.mem_map_of_mem hp)⟩
end

theorem keep_all {h₀ h g h' : Heap} {L L' : Addr} {m' : Str → Option Value} {news all : List (Addr × Obj)} (N : News h₀ L h news) (KB : KeepBut (news.map (·.1)) h g) (F' : Fr g L' h' m') (N' : News g L' h' all) (sub : ∀ p ∈ news, p ∈ all) : KeepBut [] h h' := by
  intro b o _ e
  by_cases hb : b ∈ news.map (·.1)
  · obtain ⟨p, hp, rfl⟩ := List.mem_map.mp hb
    have h1 := (N p hp).1
    rw [e] at h1
    cases h1
    exact (N' p (sub p hp)).1
  · exact F'.keep b o (KB b o hb e)
theorem fresh_in {h₀ h g h' : Heap} {L L' x : Addr} {o : Obj} {news all : List (Addr × Obj)} (_N : News h₀ L h news) (KB : KeepBut (news.map (·.1)) h g) (N' : News g L' h' all) (hm : (x, o) ∈ all) (off : x ∉ news.map (·.1)) : h.get? x = none := by
  cases e : h.get? x with
  | none => rfl
  | some o' =>
    have h1 := KB x o' off e
    rw [(N' _ hm).2.2] at h1; cases h1
theorem KeepBut.news0 {h₀ h h' : Heap} {L : Addr} {news : List (Addr × Obj)} (k : KeepBut [] h h') (N : News h₀ L h news) : News h₀ L h' news := fun p hp => ⟨k _ _ (by simp) (N p hp).1, (N p hp).2⟩
theorem KeepBut.fr0 {h₀ h h' : Heap} {L : Addr} {m : Str → Option Value} (k : KeepBut [] h h') (F : Fr h₀ L h m) : Fr h₀ L h' m := k.fr F (by simp) (by simp)
/-- a new place goes onto the ledger -/
theorem news_cons {h₀ h h' : Heap} {L x : Addr} {o : Obj} {m : Str → Option Value} {news : List (Addr × Obj)} (F : Fr h₀ L h m) (N' : News h₀ L h' news) (hx : h.get? x = none) (ho : h'.get? x = some o) : News h₀ L h' ((x, o) :: news) := fun p hp => by
  rcases List.mem_cons.mp hp with rfl | hp
  · refine ⟨ho, fun q => ?_, ?_⟩
    · obtain ⟨oL, _, _, hL, _⟩ := F.ns
      have q' : x = L := q
      rw [q', hL] at hx; cases hx
    · cases e : h₀.get? x with
      | none => rfl
      | some o' => have := F.keep _ _ e; rw [hx] at this; cases this
  · exact N' p hp
theorem news_off {h₀ h : Heap} {L x : Addr} {news : List (Addr × Obj)} (N : News h₀ L h news) (hx : h.get? x = none) : ∀ p ∈ news, p.1 ≠ x := fun p hp q => by
  have := (N p hp).1
  rw [q, hx] at this; cases this
end Mine
end

/-! ## part Draw1 -/
section
open PySem PySem.W PySem.Calls PyProof.Rows
set_option maxRecDepth 100000
namespace Mine
abbrev deckO (c : Addr) (p : Int) (tp : Tok) : Obj := W.listOf #[Value.ref c, Value.int p tp] 0

/-- what a draw leaves: all but the deck as it stood, the deck one on, an int below the number -/
structure DrawEnd (deck c : Addr) (p many : Int) (s : Shared) (r : Result) (s' : Shared) : Prop where
  go : ∀ Q : Value → Shared → Prop, (∀ x t h' tk' tp', KeepBut [deck] s.heap h' → h'.get? deck = some (deckO c (p + 1) tp') → 0 ≤ x → x < many → Q (.int x t) { s with heap := h', toks := tk' }) →
    match r with | .ok (.ret v) => Q v s' | _ => False

theorem drawEnd_of {deck c : Addr} {p many x : Int} {s : Shared} {o : Obj} {h₀ g h' : Heap} {L L' : Addr} {m' : Str → Option Value} {tp tp' t : Tok} {tk : Nat}
    (N : News h₀ L s.heap [(deck, deckO c p tp), (c, o)]) (KB : KeepBut ([(deck, deckO c p tp), (c, o)].map (·.1)) s.heap g) (F' : Fr g L' h' m') (N' : News g L' h' [(deck, deckO c (p + 1) tp'), (c, o)]) (h0 : 0 ≤ x) (h1 : x < many) :
    DrawEnd deck c p many s (.ok (.ret (.int x t))) { s with heap := h', toks := tk } := by
  refine ⟨fun Q hQ => hQ x t h' tk tp' (fun b o' hb e => ?_) (N' _ (.head _)).1 h0 h1⟩
  by_cases hc : b = c
  · subst hc
    have h2 := (N (b, o) (.tail _ (.head _))).1
    have h3 := (N' (b, o) (.tail _ (.head _))).1
    rw [e] at h2
    exact h3.trans h2.symm
  · refine F'.keep b o' (KB b o' (fun q => ?_) e)
    simp only [List.map_cons, List.map_nil, List.mem_cons, List.not_mem_nil, or_false] at q hb
    exact q.elim hb hc

theorem fmod_in {a b : Int} (hb : 0 < b) : 0 ≤ a.fmod b ∧ a.fmod b < b := by
  rw [Int.fmod_eq_emod_of_nonneg a (Int.le_of_lt hb)]
  exact ⟨Int.emod_nonneg a (by omega), Int.emod_lt_of_pos a hb⟩

theorem draw_spec {w : World} {mg mb : Str → Option Value} {mean : ExcName → Option Value} {dp un : Nat} {gd : Option (List Code)} {cn : Str} {cs : Scope} {a : Addr} {ccd : Value} {cl : List (Str × Addr)} {outer : List Env} {A₀ : Around} {base h₀ : Heap} {L : Addr} {m : Str → Option Value} {s : Shared}
    {deck c : Addr} {p many : Int} {tp tm : Tok} {vs : List Value} {ns : List Int}
    (B : Below A₀ base outer h₀) (F : Fr h₀ L s.heap m) (X : (hdA.heap_39 w.params).In h₀)
    (T : Top hdA.view_39 (looseW hdA.view_39 [Str.ofString "ParseState"]) mean mg mb h₀) (hk : cs.kind = .function)
    (hd : dp + 20 < recursionLimit) (hu : un + 100 < cLine)
    (N : News h₀ L s.heap [(deck, deckO c p tp), (c, LCg.lst vs)]) (hi : IntsAre vs ns) (hl : ns.length ≤ 63) (hp0 : 0 ≤ p) (hp1 : p ≤ 1000) (hm0 : 0 < many) (hm1 : many ≤ 100) (hdc : @LT.lt Nat _ c deck) :
    codeAny (model Challenge.rw_ok0038_01.row.prog w) (ktrTop dp un gd cn cs L a ccd cl outer) (.call (.ref 86) ⟨[.ref deck, .int many tm], []⟩) (DrawEnd deck c p many s) s := by
  revert X; k_fill; intro X
  k_dflt (refine' enterG ?k1 ?k2 ?k3 ?k4 ?k5 ?kA ?kF ?kK ?k6 ?k7 ?k8 ?k9 ?kB ?_ ?c2 ?c3 ?c4 ?c5; (case kA => exact rfl); (case kF => exact rfl); (case kK => assumption); (case k1 => k_asm); (case k2 => k_asm); (case k3 => k_asm); (case k4 => k_asm); (case k5 => k_asm); (case k6 => k_is); (case k7 => k_is); (case k8 => dsimp only [ktrTop]; omega); (case k9 => exact BindsTo.of_eq rfl); (case c5 => decide); (case kB => exact locs rfl); (case c2 => exact rfl); (case c3 => exact rfl); (case c4 => exact rfl); k_whole; intro g' L' h' KB' hsz' FG' F' N' B' X' T'; (try dsimp only); (try k_fold))
  k_steps
  all_goals (refine drawEnd_of N KB' (by assumption) (by assumption) ?_ ?_)
  all_goals first | exact (fmod_in hm0).1 | exact (fmod_in hm0).2

/-- the same as a step of a caller's walk -/
theorem draw_use {w : World} {mg mb : Str → Option Value} {mean : ExcName → Option Value} {dp un : Nat} {gd : Option (List Code)} {cn : Str} {cs : Scope} {a : Addr} {ccd : Value} {cl : List (Str × Addr)} {outer : List Env} {A₀ : Around} {base h₀ : Heap} {L : Addr} {m : Str → Option Value} {s : Shared}
    {deck c : Addr} {p many : Int} {tp tm : Tok} {vs : List Value} {ns : List Int} {news : List (Addr × Obj)} {g : Obj → List (Addr × Obj)} {Q E : Value → Shared → Prop}
    (B : Below A₀ base outer h₀) (F : Fr h₀ L s.heap m) (X : (hdA.heap_39 w.params).In h₀)
    (T : Top hdA.view_39 (looseW hdA.view_39 [Str.ofString "ParseState"]) mean mg mb h₀) (hk : cs.kind = .function)
    (N : News h₀ L s.heap news) (U : UpdF deck (deckO c p tp) news g) (hc : (c, LCg.lst vs) ∈ news) (hi : IntsAre vs ns)
    (hd : dp + 20 < recursionLimit) (hu : un + 100 < cLine) (hl : ns.length ≤ 63) (hp0 : 0 ≤ p) (hp1 : p ≤ 1000) (hm0 : 0 < many) (hm1 : many ≤ 100) (hdc : @LT.lt Nat _ c deck)
    (ret : ∀ x t h' tk' tp', Fr h₀ L h' m → News h₀ L h' (g (deckO c (p + 1) tp')) → 0 ≤ x → x < many → Q (.int x t) { s with heap := h', toks := tk' }) :
    wpAny (model Challenge.rw_ok0038_01.row.prog w) (ktrTop dp un gd cn cs L a ccd cl outer) (call (.ref 86) [.ref deck, .int many tm]) Q E s := by
  obtain ⟨own, rest, rfl, hg, h1, h2⟩ := U.split
  have hmem := N (deck, deckO c p tp) (List.mem_append_right _ (.head _))
  have N2 : News h₀ L s.heap [(deck, deckO c p tp), (c, LCg.lst vs)] := fun q hq => by
    rcases List.mem_cons.mp hq with rfl | hq
    · exact hmem
    · obtain rfl := List.mem_singleton.mp hq
      exact N _ hc
  refine wpAny_call (codeAny_mono (draw_spec B F X T hk hd hu N2 hi hl hp0 hp1 hm0 hm1 hdc) fun r s' h => ?_)
  have := h.go Q (fun x t h' tk' tp' KB hdk hx0 hx1 => ret x t h' tk' tp' (KB.frN F N2 fun b hb => ?_) (hg _ ▸ fun q hq => ?_) hx0 hx1)
  · revert this
    cases r with
    | ok f => cases f <;> exact id
    | error e => exact False.elim
  · rw [List.mem_singleton.mp hb]; exact .head _
  · rcases List.mem_append.mp hq with hq | hq
    · have P := N q (List.mem_append_left _ hq)
      exact ⟨KB _ _ (fun z => h1 q hq (List.mem_singleton.mp z)) P.1, P.2⟩
    · rcases List.mem_cons.mp hq with rfl | hq
      · exact ⟨hdk, hmem.2⟩
      · have P := N q (List.mem_append_right _ (.tail _ hq))
        exact ⟨KB _ _ (fun z => h2 q hq (List.mem_singleton.mp z)) P.1, P.2⟩
end Mine
end

/-! ## part Comp1 -/
section
open PySem PySem.W PySem.Calls PyProof.Rows
set_option maxRecDepth 100000
namespace Mine

theorem IntsAre.snoc {x : Int} {t : Tok} : ∀ {vs : List Value} {ns : List Int}, IntsAre vs ns → IntsAre (vs ++ [.int x t]) (ns ++ [x])
  | _, _, .nil => .cons x t .nil
  | _, _, .cons n u r => .cons n u (IntsAre.snoc r)

/-- between two turns of the opens' comprehension: ints below 20, the deck as many on -/
structure CompJ (cl : Addr) (oc : Obj) (deck c : Addr) (vs : List Value) (p : Int) (k i : Nat) (ys : List Value) (news : List (Addr × Obj)) : Prop where
  it : ∃ ms q tq, IntsAre ys ms ∧ ms.length = i ∧ (∀ x ∈ ms, 0 ≤ x ∧ x ≤ 20) ∧ q = p + (i : Int) ∧ k + i ≤ 3 ∧ news = [(cl, oc), (deck, deckO c q tq), (c, LCg.lst vs)]

theorem CompJ.step {cl : Addr} {oc : Obj} {deck c : Addr} {vs ys : List Value} {ms : List Int} {p q x : Int} {k i : Nat} {tq t : Tok} (h : IntsAre ys ms) (hl : ms.length = i) (hb : ∀ x ∈ ms, 0 ≤ x ∧ x ≤ 20) (hq : q = p + (i : Int)) (hk : k + 1 + i ≤ 3)
    (hx0 : 0 ≤ x) (hx1 : x ≤ 20) : CompJ cl oc deck c vs p k (i + 1) (ys ++ [.int x t]) [(cl, oc), (deck, deckO c (q + 1) tq), (c, LCg.lst vs)] :=
  ⟨ms ++ [x], q + 1, tq, IntsAre.snoc h, by simp [hl], fun y hy => by
    rcases List.mem_append.mp hy with hy | hy
    · exact hb y hy
    · rw [List.mem_singleton.mp hy]; exact ⟨hx0, hx1⟩, by omega, by omega, rfl⟩

section
variable {prog : Program} {w : World} {A : Around} {s : Shared} {h₀ : Heap} {L : Addr} {m : Str → Option Value} {env : Env}
theorem comp_ind {elt : Expr} {x : Str} {scope : Scope} {cl : List (Str × Addr)} {S : List (Addr × Obj) → Prop} {P : Nat → Value → Prop} {Fin : List Value → List (Addr × Obj) → Prop} (J : Nat → Nat → List Value → List (Addr × Obj) → Prop)
    (h0 : ∀ i ys news, J 0 i ys news → Fin ys news)
    (step : ∀ k i ys news, J (k + 1) i ys news → ∀ v I oI C oC D m₂ h tk (E' : Value → Shared → Prop), P i v → LCg.NsObj oC m₂ → m₂ x = some v → Fr h₀ L h m → News h₀ L h ((I, oI) :: (C, oC) :: (D, LCg.lst ys) :: news) → LCg.Off3 I C D news → ((@Ne Nat I C) ∧ (@Ne Nat I D) ∧ (@Ne Nat C D)) →
      wpAny (model prog w) A (eval elt (compEnvC scope cl C env)) (LCg.CompEnd h₀ L m { s with heap := h, toks := tk } I oI C oC D (LCg.lst ys) S (fun y news' => J k (i + 1) (ys ++ [y]) news')) E' { s with heap := h, toks := tk }) :
    ∀ k i ys news, J k i ys news → LCg.CompRest prog w A h₀ L m env elt x scope cl s S P Fin k i ys news
  | 0, i, ys, news, j => LCg.CompRest.zero (h0 i ys news j)
  | k + 1, i, ys, news, j => LCg.CompRest.succ fun v I oI C oC D m₂ h tk E' hv hC hx F N off ne =>
      wpAny_mono (step k i ys news j v I oI C oC D m₂ h tk E' hv hC hx F N off ne) (fun y s₂ ⟨h', tk', news', e, F', N', off', hS, r⟩ => ⟨h', tk', news', e, F', N', off', hS, comp_ind J h0 step k (i + 1) _ _ r⟩) fun _ _ e => e

theorem comp_use {elt : Expr} {x : Str} {scope : Scope} {cls : List (Str × Addr)} {S : List (Addr × Obj) → Prop} {P : Nat → Value → Prop} {Fin : List Value → List (Addr × Obj) → Prop} {n : Nat} {cl : Addr} {oc : Obj} {deck c : Addr} {vs : List Value} {p : Int} {tp : Tok} (hn : n ≤ 3)
    (step : ∀ k i ys ms q tq, IntsAre ys ms → ms.length = i → (∀ x ∈ ms, 0 ≤ x ∧ x ≤ 20) → q = p + (i : Int) → k + 1 + i ≤ 3 → ∀ v I oI C oC D m₂ h tk (E' : Value → Shared → Prop), P i v → LCg.NsObj oC m₂ → m₂ x = some v → Fr h₀ L h m → News h₀ L h ((I, oI) :: (C, oC) :: (D, LCg.lst ys) :: [(cl, oc), (deck, deckO c q tq), (c, LCg.lst vs)]) → LCg.Off3 I C D [(cl, oc), (deck, deckO c q tq), (c, LCg.lst vs)] → ((@Ne Nat I C) ∧ (@Ne Nat I D) ∧ (@Ne Nat C D)) →
      wpAny (model prog w) A (eval elt (compEnvC scope cls C env)) (LCg.CompEnd h₀ L m { s with heap := h, toks := tk } I oI C oC D (LCg.lst ys) S (fun y news' => CompJ cl oc deck c vs p k (i + 1) (ys ++ [y]) news')) E' { s with heap := h, toks := tk })
    (fin : ∀ ys ms q tq, IntsAre ys ms → ms.length ≤ 3 → (∀ x ∈ ms, 0 ≤ x ∧ x ≤ 20) → p ≤ q → q ≤ p + 3 → Fin ys [(cl, oc), (deck, deckO c q tq), (c, LCg.lst vs)]) :
    LCg.CompRest prog w A h₀ L m env elt x scope cls s S P Fin n 0 [] [(cl, oc), (deck, deckO c p tp), (c, LCg.lst vs)] := by
  refine comp_ind (CompJ cl oc deck c vs p) ?_ ?_ n 0 _ _ ⟨[], p, tp, .nil, rfl, (fun _ h => nomatch h), by simp, by omega, rfl⟩
  · rintro i ys news ⟨ms, q, tq, h1, h2, h3, h4, h5, rfl⟩
    exact fin ys ms q tq h1 (by omega) h3 (by omega) (by omega)
  · rintro k i ys news ⟨ms, q, tq, h1, h2, h3, h4, h5, rfl⟩
    exact step k i ys ms q tq h1 h2 h3 h4 (by omega)
end

/-- an item of a list just written, at a place that lies in it: the list is forgotten -/
theorem pick_use {prog : Program} {w : World} {A : Around} {E : Value → Shared → Prop} {s : Shared} {h₀ : Heap} {L : Addr} {value slice : Expr} {l : Addr} {its : List Value} {n : Nat} {news : List (Addr × Obj)} {k : Int} {u : Tok} {Q : Value → Shared → Prop}
    (N : News h₀ L s.heap ((l, W.listOf its.toArray n) :: news)) (h0 : 0 ≤ k) (hhi : k < 2 ^ 63) (hx : k < (its.length : Int)) (h : ∀ v, v ∈ its → News h₀ L s.heap news → Q v s)
    (hs : subscripted slice false (.ref l) (.int k u) = operate [.ref l, .int k u] (getItem (.ref l) (.int k u)) := by with_unfolding_all rfl) :
    wpAny (model prog w) A (subscriptTail value slice (.ref l) (.int k u)) Q E s := by
  have hl : s.heap.IsList l its.toArray := ⟨_, (N _ (.head _)).1, rfl, _, rfl⟩
  have hlt : k.toNat < its.length := by omega
  exact tail_any hl.typeIs slot_list_getitem.lookup (wpAny_getItem_list hl h0 hhi (x := its[k.toNat]) (by simp [hlt]) (h _ (List.getElem_mem hlt) fun p hp => N p (.tail _ hp))) hs
theorem small_few {x : Int} (h0 : 0 ≤ x) (h1 : x ≤ 1000) : Builtin.Range.small 0 x 1 = true := small_one (by decide) (by decide) (by omega) (by omega)
theorem few_size {x : Int} {n : Nat} (h0 : 0 ≤ x) (h1 : x ≤ n) (h2 : n ≤ 1000) : (x - 0).toNat ≤ sizeLine := by rw [sizeLine_eq]; omega

abbrev tupO (vs : List Value) : Obj := { cls := .type "tuple", data := .seq vs.toArray }
/-- a tuple of a list just made: the list is forgotten -/
theorem tuple_use {prog : Program} {w : World} {A : Around} {E : Value → Shared → Prop} {s : Shared} {h₀ : Heap} {L : Addr} {m : Str → Option Value} {l : Addr} {ys : List Value} {ms : List Int} {news : List (Addr × Obj)} {Q : Value → Shared → Prop}
    (F : Fr h₀ L s.heap m) (N : News h₀ L s.heap ((l, LCg.lst ys) :: news)) (hi : IntsAre ys ms) (hl : ms.length ≤ 3)
    (h : ∀ D h', Fr h₀ L h' m → News h₀ L h' ((D, tupO ys) :: news) → (∀ p ∈ news, p.1 < D) → Q (.ref D) { s with heap := h' }) : wpAny (model prog w) A (call (.type "tuple") [.ref l]) Q E s :=
  kde_tupleOf (zs := ys) (items := ys.toArray) F (fun p hp => N p (.tail _ hp)) ⟨_, (N _ (.head _)).1, rfl, _, rfl⟩ (by have := hi.length; rw [List.size_toArray]; omega) (by simp) h

/-- what a value that stands by itself reads as -/
def pyOf : Value → Option PyData
  | .none => some .none
  | .bool b => some (.bool b)
  | .int i _ => some (.int i)
  | .str x _ => some (.str x)
  | _ => Option.none
def AtomIn (ds : List PyData) (v : Value) : Prop := ∃ d, d ∈ ds ∧ pyOf v = some d
theorem AtomIn.of {v : Value} {l : List Value} {ds : List PyData} (hv : v ∈ l) (h : l.map pyOf = ds.map some) : AtomIn ds v := by
  have h1 : pyOf v ∈ ds.map some := h ▸ List.mem_map_of_mem hv
  obtain ⟨d, hd, e⟩ := List.mem_map.mp h1
  exact ⟨d, hd, e.symm⟩

/-- what the law's draws make of the twelve -/
structure ItemsFacts (ys : List Value) (ms : List Int) (xb xl : Int) (vw vd vt : Value) (xd : Int) (vy va vh : Value) : Prop where
  isInts : IntsAre ys ms
  len : ms.length ≤ 3
  small : ∀ x ∈ ms, 0 ≤ x ∧ x ≤ 20
  below : 0 ≤ xb ∧ xb < 3
  least : -4 < xl ∧ xl ≤ 0
  whole : AtomIn [.none, .int 7] vw
  word : AtomIn [.none, .int 8] vd
  string : AtomIn [.none, .int 0, .int 34, .int 39] vt
  deep : -5 ≤ xd ∧ xd ≤ 5
  style : AtomIn [.str "", .str "b", .str "c", .str "bc"] vy
  start : AtomIn [.none, .int 6] va
  half : AtomIn [.str "", .str "begin", .str "nest", .str "end"] vh

abbrev itemVals (ao : Addr) (xb xl : Int) (vw vd vt : Value) (xd : Int) (vy : Value) (bn : Bool) (va : Value) (bq : Bool) (vh : Value) (tb tl td : Tok) : List Value :=
  [.ref ao, .int xb tb, .int xl tl, vw, vd, vt, .int xd td, vy, .bool bn, va, .bool bq, vh]

structure ItemsEnd (deck c : Addr) (p : Int) (s : Shared) (r : Result) (s' : Shared) : Prop where
  go : ∀ Q : Value → Shared → Prop, (∀ t ao ys ms xb xl vw vd vt xd vy bn va bq vh tb tl td q tq h' tk', ItemsFacts ys ms xb xl vw vd vt xd vy va vh → p ≤ q → q ≤ p + 20 → KeepBut [deck] s.heap h' → h'.get? deck = some (deckO c q tq) → h'.get? ao = some (tupO ys) →
      h'.get? t = some (tupO (itemVals ao xb xl vw vd vt xd vy bn va bq vh tb tl td)) → s.heap.objs.size ≤ ao → ao < t → Q (.ref t) { s with heap := h', toks := tk' }) →
    match r with | .ok (.ret v) => Q v s' | _ => False

theorem itemsEnd_of {deck c : Addr} {p q xb xl : Int} {s : Shared} {o : Obj} {h₀ g h' : Heap} {L L' t ao : Addr} {m' : Str → Option Value} {tp tq tb tl t7 t8 t1 t2 t3 d1 d2 d3 d4 d5 y1 y2 y3 y4 t6 z1 z2 z3 z4 : Tok} {tk : Nat} {ys : List Value} {ms : List Int} {vw vd vt vdp vy va vh : Value} {bn bq : Bool} {rest : List (Addr × Obj)}
    (N : News h₀ L s.heap [(deck, deckO c p tp), (c, o)]) (KB : KeepBut ([(deck, deckO c p tp), (c, o)].map (·.1)) s.heap g) (hsz : s.heap.objs.size ≤ L') (F' : Fr g L' h' m')
    (N' : News g L' h' ((t, tupO [.ref ao, .int xb tb, .int xl tl, vw, vd, vt, vdp, vy, .bool bn, va, .bool bq, vh]) :: rest)) (m1 : (ao, tupO ys) ∈ rest) (m2 : (deck, deckO c q tq) ∈ rest) (m3 : (c, o) ∈ rest)
    (hao : @LT.lt Nat _ L' ao) (hat : @LT.lt Nat _ ao t) (hi : IntsAre ys ms) (hl : ms.length ≤ 3) (hb : ∀ x ∈ ms, 0 ≤ x ∧ x ≤ 20) (hxb : 0 ≤ xb ∧ xb < 3) (hxl : -4 < xl ∧ xl ≤ 0) (hq : p ≤ q ∧ q ≤ p + 20)
    (hw : vw ∈ [Value.none, .int 7 t7]) (hd : vd ∈ [Value.none, .int 8 t8]) (ht : vt ∈ [Value.none, .int 0 t1, .int 34 t2, .int 39 t3]) (hdp : vdp ∈ [Value.int 0 d1, .int (-1) d2, .int 1 d3, .int 2 d4, .int 5 d5])
    (hy : vy ∈ [Value.str "" y1, .str "b" y2, .str "c" y3, .str "bc" y4]) (ha : va ∈ [Value.none, .int 6 t6]) (hh : vh ∈ [Value.str "" z1, .str "begin" z2, .str "nest" z3, .str "end" z4]) :
    ItemsEnd deck c p s (.ok (.ret (.ref t))) { s with heap := h', toks := tk } := by
  have hdeep : ∃ xd td, vdp = .int xd td ∧ -5 ≤ xd ∧ xd ≤ 5 := by
    simp only [List.mem_cons, List.not_mem_nil, or_false] at hdp
    rcases hdp with rfl | rfl | rfl | rfl | rfl <;> exact ⟨_, _, rfl, by decide, by decide⟩
  obtain ⟨xd, td, rfl, hxd⟩ := hdeep
  refine ⟨fun Q hQ => hQ t ao ys ms xb xl vw vd vt xd vy bn va bq vh tb tl td q tq h' tk ⟨hi, hl, hb, hxb, hxl, .of hw rfl, .of hd rfl, .of ht rfl, hxd, .of hy rfl, .of ha rfl, .of hh rfl⟩ hq.1 hq.2 (fun b o' hb e => ?_) (N' _ (.tail _ m2)).1 (N' _ (.tail _ m1)).1 (N' _ (.head _)).1 (Nat.le_trans hsz (Nat.le_of_lt hao)) hat⟩
  by_cases hc : b = c
  · subst hc
    have h2 := (N (b, o) (.tail _ (.head _))).1
    have h3 := (N' (b, o) (.tail _ m3)).1
    rw [e] at h2
    exact h3.trans h2.symm
  · refine F'.keep b o' (KB b o' (fun q => ?_) e)
    simp only [List.map_cons, List.map_nil, List.mem_cons, List.not_mem_nil, or_false] at q hb
    exact q.elim hb hc
end Mine
end

/-! ## part Items1 -/
section
open PySem PySem.W PySem.Calls PyProof.Rows
set_option maxRecDepth 100000
namespace Mine
local macro_rules | `(tactic| walk_at "call ref") => `(tactic| (
  k_here; (with_reducible show wpAny _ _ (call (Value.ref 86) [Value.ref _, Value.int _ _]) _ _ _)
  k_dflt (refine' draw_use (by k_asm) (by k_asm) (by k_asm) (by k_asm) (by first | exact rfl | assumption) (by k_asm) (by k_updF) (by k_mem) (by assumption) (by simp only [depth_deeper, ktrTop] at *; omega) (by simp only [units_deeper, ktrTop] at *; omega) (by omega) (by omega) (by omega) (by omega) (by omega) (by first | assumption | omega) ?_; k_whole)
  intro x' t' h' tk' tp' F' N' xlo' xhi'; (try dsimp only at N'); (try k_sweep)))
local macro_rules | `(tactic| walk_at "eval ListComp") => `(tactic| (k_here; lcf_look; k_dflt (refine LCg.ListComp_U (F₀ := by k_asm) (by with_unfolding_all rfl) (by decide) (by rfl) (by decide) (by rfl) ?_); k_dflt lcg_toSrc))
local macro_rules | `(tactic| walk_at "CompSrc") => `(tactic| (
  k_here
  refine' LCg.CompSrc.range ?a ?b ?c ?d ?e ?f ?g ?_
  (case a => k_dflt exact rfl)
  (case b => k_asm)
  (case c => k_asm)
  (case d => assumption)
  (case e => refine' small_few ?_ ?_ <;> omega)
  (case f => k_dflt exact rangeSize_nat _ _)
  (case g => refine' few_size (n := 10) ?_ ?_ ?_ <;> omega)
  intro g'
  refine' comp_use ?n ?s ?_
  (case n => omega)
  (case s => (intro k' i' ys' ms' q' tq' hy' hm' hb' hq' hk' v' I' oI' C' oC' D' m' h' tk' E' hv' hC' hx' F' N' off' ne'; obtain ⟨t9', hv9'⟩ := hv'; subst hv9'; (simp only [LCg.Off3, and_true] at off'); (k_dflt k_steps); refine' CompJ.step hy' hm' hb' hq' hk' ?_ ?_ <;> omega))
  intro ys' ms' q' tq' hy' hm' hb' hq0' hq1'))
local macro_rules | `(tactic| walk_at "subscriptTail") => `(tactic| (
  k_here; (with_reducible show wpAny _ _ (subscriptTail (PySem.Expr.List _ _) _ (Value.ref _) (Value.int _ _)) _ _ _); (rename News _ _ _ _ => nOld')
  k_dflt (refine pick_use nOld' (by first | assumption | omega) (by omega) (by (simp only [List.length_cons, List.length_nil]; omega)) ?_)
  intro v' hv' N'; clear nOld'))

local macro_rules | `(tactic| walk_at "call type:tuple") => `(tactic| (
  k_here; (with_reducible show wpAny _ _ (call (Value.type _) [Value.ref _]) _ _ _)
  k_dflt (refine' tuple_use (by k_asm) (by k_asm) (by assumption) (by assumption) ?_)
  intro D' h' F' N' l1; (try k_lt l1); (try k_sweep)))

set_option maxHeartbeats 8000000 in
theorem items_spec {w : World} {mg mb : Str → Option Value} {mean : ExcName → Option Value} {dp un : Nat} {gd : Option (List Code)} {cn : Str} {cs : Scope} {a : Addr} {ccd : Value} {cl : List (Str × Addr)} {outer : List Env} {A₀ : Around} {base h₀ : Heap} {L : Addr} {m : Str → Option Value} {s : Shared}
    {deck c : Addr} {p : Int} {tp : Tok} {vs : List Value} {ns : List Int}
    (B : Below A₀ base outer h₀) (F : Fr h₀ L s.heap m) (X : (hdA.heap_39 w.params).In h₀)
    (T : Top hdA.view_39 (looseW hdA.view_39 [Str.ofString "ParseState"]) mean mg mb h₀) (hk : cs.kind = .function)
    (hd : dp + 40 < recursionLimit) (hu : un + 200 < cLine)
    (N : News h₀ L s.heap [(deck, deckO c p tp), (c, LCg.lst vs)]) (hi : IntsAre vs ns) (hl : ns.length ≤ 63) (hp0 : 0 ≤ p) (hp1 : p ≤ 900) (hdc : @LT.lt Nat _ c deck) :
    codeAny (model Challenge.rw_ok0038_01.row.prog w) (ktrTop dp un gd cn cs L a ccd cl outer) (.call (.ref 91) ⟨[.ref deck], []⟩) (ItemsEnd deck c p s) s := by
  revert X; k_fill; intro X
  k_dflt (refine' enterGC ?k1 ?k2 ?k3 ?k4 ?k5 ?kA ?kF ?kK ?k6 ?k7 ?k8 ?k9 ?kB ?kD ?_ ?c2 ?c3 ?c4; (case kA => exact rfl); (case kF => exact rfl); (case kK => assumption); (case k1 => k_asm); (case k2 => k_asm); (case k3 => k_asm); (case k4 => k_asm); (case k5 => k_asm); (case k6 => k_is); (case k7 => k_is); (case k8 => dsimp only [ktrTop]; omega); (case k9 => exact BindsTo.of_eq rfl); (case kB => exact rfl); (case kD => decide +kernel); (case c2 => exact rfl); (case c3 => exact rfl); (case c4 => exact rfl); k_whole; intro g' L' h' tk' cells' KB' hsz' FG' F' N' Y' B' X' T' l1; (try k_lt l1); k_cells Y'; (try simp only [List.cons_append, List.nil_append] at N'); (try dsimp only); (try k_fold))
  k_steps
  refine itemsEnd_of N KB' hsz' (by assumption) (by assumption) (by k_mem) (by k_mem) (by k_mem) (by omega) (by omega) (by assumption) (by assumption) (by assumption) (by omega) (by omega) (by omega) (by assumption) (by assumption) (by assumption) (by assumption) (by assumption) (by assumption) (by assumption)
end Mine
end

/-! ## part State1 -/
section
open PySem PySem.W PySem.Calls PyProof.Rows
set_option maxRecDepth 100000
namespace Mine
local macro_rules | `(tactic| k_enter) => `(tactic| (
  refine' code_def ?k1 ?k2 ?k3 ?k4 ?k5 ?kA ?kF ?kK ?k6 ?k7 ?k8 ?k9 ?kB ?_ ?c2 ?c3 ?c4 ?c5; (case kA => exact rfl); (case kF => exact rfl); (case kK => exact rfl); (case k1 => k_asm); (case k2 => k_asm); (case k3 => k_asm); (case k4 => k_asm); (case k5 => k_asm); (case k6 => k_is); (case k7 => k_is); (case k8 => (simp only [depth_under_make, depth_under_kw, depth_in1, depth_deeper, ktrTop]; omega)); (case k9 => first | exact BindsTo.of_eq rfl | exact binds_K (by k_in) rfl (by k_is) rfl rfl rfl); (case c5 => decide); (case kB => exact locs rfl); (case c2 => exact rfl); (case c3 => exact rfl); (case c4 => exact rfl); k_whole; intro g' L' h' FG' F' N' B' X' T'; (try dsimp only); (try k_lift B'); (try k_fold)))
/-- the dict of a ParseState -/
abbrev psD (P : Params) (k0 k1 k2 k3 k4 k5 k6 k7 k8 k9 k10 k11 : Tok) (v0 v1 v2 v3 v4 v5 v6 v7 v8 v9 v10 v11 : Value) : Obj := dictOf
  [⟨PyData.keyHash P (Str.ofString "opens"), .str (Str.ofString "opens") k0, v0⟩, ⟨PyData.keyHash P (Str.ofString "below"), .str (Str.ofString "below") k1, v1⟩, ⟨PyData.keyHash P (Str.ofString "least"), .str (Str.ofString "least") k2, v2⟩,
    ⟨PyData.keyHash P (Str.ofString "whole"), .str (Str.ofString "whole") k3, v3⟩, ⟨PyData.keyHash P (Str.ofString "word"), .str (Str.ofString "word") k4, v4⟩, ⟨PyData.keyHash P (Str.ofString "string"), .str (Str.ofString "string") k5, v5⟩,
    ⟨PyData.keyHash P (Str.ofString "comment"), .str (Str.ofString "comment") k6, v6⟩, ⟨PyData.keyHash P (Str.ofString "style"), .str (Str.ofString "style") k7, v7⟩, ⟨PyData.keyHash P (Str.ofString "nests"), .str (Str.ofString "nests") k8, v8⟩,
    ⟨PyData.keyHash P (Str.ofString "start"), .str (Str.ofString "start") k9, v9⟩, ⟨PyData.keyHash P (Str.ofString "quoted"), .str (Str.ofString "quoted") k10, v10⟩, ⟨PyData.keyHash P (Str.ofString "half"), .str (Str.ofString "half") k11, v11⟩] 12

structure SEnd (P : Params) (v0 v1 v2 v3 v4 v5 v6 v7 v8 v9 v10 v11 : Value) (s : Shared) (r : Result) (s' : Shared) : Prop where
  go : ∀ Q : Value → Shared → Prop, (∀ x dx k0 k1 k2 k3 k4 k5 k6 k7 k8 k9 k10 k11 h' tk', KeepBut [] s.heap h' → h'.get? x = some (instObj 61 dx) → h'.get? dx = some (psD P k0 k1 k2 k3 k4 k5 k6 k7 k8 k9 k10 k11 v0 v1 v2 v3 v4 v5 v6 v7 v8 v9 v10 v11) →
      s.heap.get? dx = none → s.heap.get? x = none → dx < x → Q (.ref x) { s with heap := h', toks := tk' }) → match r with | .ok (.ret v) => Q v s' | _ => False
theorem sEnd_of {P : Params} {v0 v1 v2 v3 v4 v5 v6 v7 v8 v9 v10 v11 : Value} {s : Shared} {o : Obj} {h₀ g h' : Heap} {L L' t x dx : Addr} {m' : Str → Option Value} {k0 k1 k2 k3 k4 k5 k6 k7 k8 k9 k10 k11 : Tok} {tk : Nat} {rest : List (Addr × Obj)}
    (N : News h₀ L s.heap [(t, o)]) (KB : KeepBut ([(t, o)].map (·.1)) s.heap g) (F' : Fr g L' h' m')
    (N' : News g L' h' ((x, instObj 61 dx) :: (dx, psD P k0 k1 k2 k3 k4 k5 k6 k7 k8 k9 k10 k11 v0 v1 v2 v3 v4 v5 v6 v7 v8 v9 v10 v11) :: rest)) (m1 : (t, o) ∈ rest) (h1 : @LT.lt Nat _ t dx) (h2 : @LT.lt Nat _ dx x) :
    SEnd P v0 v1 v2 v3 v4 v5 v6 v7 v8 v9 v10 v11 s (.ok (.ret (.ref x))) { s with heap := h', toks := tk } := by
  refine ⟨fun Q hQ => hQ x dx _ _ _ _ _ _ _ _ _ _ _ _ h' tk (keep_all N KB F' N' ?_) (N' _ (.head _)).1 (N' _ (.tail _ (.head _))).1 (fresh_in N KB N' (.tail _ (.head _)) ?_) (fresh_in N KB N' (.head _) ?_) h2⟩
  · intro p hp; rw [List.mem_singleton.mp hp]; exact .tail _ (.tail _ m1)
  · simp only [List.map_cons, List.map_nil, List.mem_singleton]; exact fun q => absurd h1 (q ▸ Nat.lt_irrefl _)
  · simp only [List.map_cons, List.map_nil, List.mem_singleton]; exact fun q => absurd (Nat.lt_trans h1 h2) (q ▸ Nat.lt_irrefl _)

set_option maxHeartbeats 8000000 in
theorem state_spec {w : World} {mg mb : Str → Option Value} {mean : ExcName → Option Value} {dp un : Nat} {gd : Option (List Code)} {cn : Str} {cs : Scope} {a : Addr} {ccd : Value} {cl : List (Str × Addr)} {outer : List Env} {A₀ : Around} {base h₀ : Heap} {L : Addr} {m : Str → Option Value} {s : Shared}
    {t : Addr} {v0 v1 v2 v3 v4 v5 v6 v7 v8 v9 v10 v11 : Value}
    (B : Below A₀ base outer h₀) (F : Fr h₀ L s.heap m) (X : (hdA.heap_39 w.params).In h₀)
    (T : Top hdA.view_39 (looseW hdA.view_39 [Str.ofString "ParseState"]) mean mg mb h₀) (hk : cs.kind = .function)
    (hd : dp + 40 < recursionLimit) (hu : un + 200 < cLine)
    (N : News h₀ L s.heap [(t, tupO [v0, v1, v2, v3, v4, v5, v6, v7, v8, v9, v10, v11])]) :
    codeAny (model Challenge.rw_ok0038_01.row.prog w) (ktrTop dp un gd cn cs L a ccd cl outer) (.call (.ref 72) ⟨[.ref t], []⟩) (SEnd w.params v0 v1 v2 v3 v4 v5 v6 v7 v8 v9 v10 v11 s) s := by
  revert X; k_fill; intro X
  k_dflt (refine' enterG ?k1 ?k2 ?k3 ?k4 ?k5 ?kA ?kF ?kK ?k6 ?k7 ?k8 ?k9 ?kB ?_ ?c2 ?c3 ?c4 ?c5; (case kA => exact rfl); (case kF => exact rfl); (case kK => assumption); (case k1 => k_asm); (case k2 => k_asm); (case k3 => k_asm); (case k4 => k_asm); (case k5 => k_asm); (case k6 => k_is); (case k7 => k_is); (case k8 => dsimp only [ktrTop]; omega); (case k9 => exact BindsTo.of_eq rfl); (case c5 => decide); (case kB => exact locs rfl); (case c2 => exact rfl); (case c3 => exact rfl); (case c4 => exact rfl); k_whole; intro g' L' h' KB' hsz' FG' F' N' B' X' T'; (try dsimp only); (try k_fold))
  k_steps
  exact sEnd_of N KB' (by assumption) (by assumption) (by k_mem) (by omega) (by omega)

/-- the call as a step of a caller's walk -/
theorem state_use {w : World} {mg mb : Str → Option Value} {mean : ExcName → Option Value} {dp un : Nat} {gd : Option (List Code)} {cn : Str} {cs : Scope} {a : Addr} {ccd : Value} {cl : List (Str × Addr)} {outer : List Env} {A₀ : Around} {base h₀ : Heap} {L : Addr} {m : Str → Option Value} {s : Shared}
    {t : Addr} {v0 v1 v2 v3 v4 v5 v6 v7 v8 v9 v10 v11 : Value} {news : List (Addr × Obj)} {Q E : Value → Shared → Prop}
    (B : Below A₀ base outer h₀) (F : Fr h₀ L s.heap m) (X : (hdA.heap_39 w.params).In h₀)
    (T : Top hdA.view_39 (looseW hdA.view_39 [Str.ofString "ParseState"]) mean mg mb h₀) (hk : cs.kind = .function)
    (N : News h₀ L s.heap news) (hm : (t, tupO [v0, v1, v2, v3, v4, v5, v6, v7, v8, v9, v10, v11]) ∈ news)
    (hd : dp + 40 < recursionLimit) (hu : un + 200 < cLine)
    (ret : ∀ x dx k0 k1 k2 k3 k4 k5 k6 k7 k8 k9 k10 k11 h' tk', Fr h₀ L h' m → News h₀ L h' ((x, instObj 61 dx) :: (dx, psD w.params k0 k1 k2 k3 k4 k5 k6 k7 k8 k9 k10 k11 v0 v1 v2 v3 v4 v5 v6 v7 v8 v9 v10 v11) :: news) → (∀ p ∈ news, p.1 ≠ dx ∧ p.1 ≠ x) → @LT.lt Nat _ dx x → Q (.ref x) { s with heap := h', toks := tk' }) :
    wpAny (model Challenge.rw_ok0038_01.row.prog w) (ktrTop dp un gd cn cs L a ccd cl outer) (call (.ref 72) [.ref t]) Q E s := by
  refine wpAny_call (codeAny_mono (state_spec B F X T hk hd hu (fun p hp => by rw [List.mem_singleton.mp hp]; exact N _ hm)) fun r s' h => ?_)
  have := h.go Q (fun x dx k0 k1 k2 k3 k4 k5 k6 k7 k8 k9 k10 k11 h' tk' KB e1 e2 n1 n2 l => ret x dx k0 k1 k2 k3 k4 k5 k6 k7 k8 k9 k10 k11 h' tk' (KB.fr0 F) (news_cons F (news_cons F (KB.news0 N) n1 e2) n2 e1) (fun p hp => ⟨news_off N n1 p hp, news_off N n2 p hp⟩) l)
  revert this
  cases r with
  | ok f => cases f <;> exact id
  | error e => exact False.elim
end Mine
end

/-! ## part Meth1 -/
section
open PySem PySem.W PySem.Calls PyProof.Rows
set_option maxRecDepth 100000
namespace Mine

/-- what items() leaves: a new tuple of the twelve -/
structure TEnd (v0 v1 v2 v3 v4 v5 v6 v7 v8 v9 v10 v11 : Value) (s : Shared) (r : Result) (s' : Shared) : Prop where
  go : ∀ Q : Value → Shared → Prop, (∀ t h' tk', KeepBut [] s.heap h' → h'.get? t = some (tupO [v0, v1, v2, v3, v4, v5, v6, v7, v8, v9, v10, v11]) → s.heap.get? t = none → Q (.ref t) { s with heap := h', toks := tk' }) →
    match r with | .ok (.ret v) => Q v s' | _ => False
theorem tEnd_of {v0 v1 v2 v3 v4 v5 v6 v7 v8 v9 v10 v11 : Value} {s : Shared} {o o2 : Obj} {h₀ g h' : Heap} {L L' t x dx : Addr} {m' : Str → Option Value} {tk : Nat} {rest : List (Addr × Obj)}
    (N : News h₀ L s.heap [(x, o), (dx, o2)]) (KB : KeepBut ([(x, o), (dx, o2)].map (·.1)) s.heap g) (F' : Fr g L' h' m')
    (N' : News g L' h' ((t, tupO [v0, v1, v2, v3, v4, v5, v6, v7, v8, v9, v10, v11]) :: rest)) (m1 : (x, o) ∈ rest) (m2 : (dx, o2) ∈ rest) (h1 : @LT.lt Nat _ x t) (h2 : @LT.lt Nat _ dx t) :
    TEnd v0 v1 v2 v3 v4 v5 v6 v7 v8 v9 v10 v11 s (.ok (.ret (.ref t))) { s with heap := h', toks := tk } := by
  refine ⟨fun Q hQ => hQ t h' tk (keep_all N KB F' N' ?_) (N' _ (.head _)).1 (fresh_in N KB N' (.head _) ?_)⟩
  · intro p hp
    rcases List.mem_cons.mp hp with rfl | hp
    · exact .tail _ m1
    · rw [List.mem_singleton.mp hp]; exact .tail _ m2
  · simp only [List.map_cons, List.map_nil, List.mem_cons, List.not_mem_nil, or_false]
    rintro (q | q)
    · exact absurd h1 (q ▸ Nat.lt_irrefl _)
    · exact absurd h2 (q ▸ Nat.lt_irrefl _)

/-- values that an attribute hands out as they stand -/
def Handed (vs : List Value) : Prop := ∀ v ∈ vs, handedIn v = true
theorem Handed.at' {vs : List Value} (h : Handed vs) {v : Value} (hv : v ∈ vs) : handedIn v = true := h v hv
local macro_rules | `(tactic| k_handed) => `(tactic| ((rename Handed _ => hX'); exact Handed.at' hX' (by k_mem)))
set_option maxHeartbeats 8000000 in
theorem tup_spec {w : World} {mg mb : Str → Option Value} {mean : ExcName → Option Value} {dp un : Nat} {gd : Option (List Code)} {cn : Str} {cs : Scope} {a : Addr} {ccd : Value} {cl : List (Str × Addr)} {outer : List Env} {A₀ : Around} {base h₀ : Heap} {L : Addr} {m : Str → Option Value} {s : Shared}
    {x dx : Addr} {k0 k1 k2 k3 k4 k5 k6 k7 k8 k9 k10 k11 : Tok} {v0 v1 v2 v3 v4 v5 v6 v7 v8 v9 v10 v11 : Value}
    (B : Below A₀ base outer h₀) (F : Fr h₀ L s.heap m) (X : (hdA.heap_39 w.params).In h₀)
    (T : Top hdA.view_39 (looseW hdA.view_39 [Str.ofString "ParseState"]) mean mg mb h₀) (hk : cs.kind = .function)
    (hd : dp + 40 < recursionLimit) (hu : un + 200 < cLine)
    (hh : Handed [v0, v1, v2, v3, v4, v5, v6, v7, v8, v9, v10, v11])
    (N : News h₀ L s.heap [(x, instObj 61 dx), (dx, psD w.params k0 k1 k2 k3 k4 k5 k6 k7 k8 k9 k10 k11 v0 v1 v2 v3 v4 v5 v6 v7 v8 v9 v10 v11)]) :
    codeAny (model Challenge.rw_ok0038_01.row.prog w) (ktrTop dp un gd cn cs L a ccd cl outer) (.call (.ref 58) ⟨[.ref x], []⟩) (TEnd v0 v1 v2 v3 v4 v5 v6 v7 v8 v9 v10 v11 s) s := by
  revert X; k_fill; intro X
  k_dflt (refine' enterG ?k1 ?k2 ?k3 ?k4 ?k5 ?kA ?kF ?kK ?k6 ?k7 ?k8 ?k9 ?kB ?_ ?c2 ?c3 ?c4 ?c5; (case kA => exact rfl); (case kF => exact rfl); (case kK => assumption); (case k1 => k_asm); (case k2 => k_asm); (case k3 => k_asm); (case k4 => k_asm); (case k5 => k_asm); (case k6 => k_is); (case k7 => k_is); (case k8 => dsimp only [ktrTop]; omega); (case k9 => exact BindsTo.of_eq rfl); (case c5 => decide); (case kB => exact locs rfl); (case c2 => exact rfl); (case c3 => exact rfl); (case c4 => exact rfl); k_whole; intro g' L' h' KB' hsz' FG' F' N' B' X' T'; (try dsimp only); (try k_fold))
  k_steps
  exact tEnd_of N KB' (by assumption) (by assumption) (by k_mem) (by k_mem) (by omega) (by omega)

/-- the call as a step of a caller's walk -/
theorem tup_use {w : World} {mg mb : Str → Option Value} {mean : ExcName → Option Value} {dp un : Nat} {gd : Option (List Code)} {cn : Str} {cs : Scope} {a : Addr} {ccd : Value} {cl : List (Str × Addr)} {outer : List Env} {A₀ : Around} {base h₀ : Heap} {L : Addr} {m : Str → Option Value} {s : Shared}
    {x dx : Addr} {k0 k1 k2 k3 k4 k5 k6 k7 k8 k9 k10 k11 : Tok} {v0 v1 v2 v3 v4 v5 v6 v7 v8 v9 v10 v11 : Value} {news : List (Addr × Obj)} {Q E : Value → Shared → Prop}
    (B : Below A₀ base outer h₀) (F : Fr h₀ L s.heap m) (X : (hdA.heap_39 w.params).In h₀)
    (T : Top hdA.view_39 (looseW hdA.view_39 [Str.ofString "ParseState"]) mean mg mb h₀) (hk : cs.kind = .function)
    (N : News h₀ L s.heap news) (hm : (x, instObj 61 dx) ∈ news) (hm2 : (dx, psD w.params k0 k1 k2 k3 k4 k5 k6 k7 k8 k9 k10 k11 v0 v1 v2 v3 v4 v5 v6 v7 v8 v9 v10 v11) ∈ news)
    (hh : Handed [v0, v1, v2, v3, v4, v5, v6, v7, v8, v9, v10, v11])
    (hd : dp + 40 < recursionLimit) (hu : un + 200 < cLine)
    (ret : ∀ t h' tk', Fr h₀ L h' m → News h₀ L h' ((t, tupO [v0, v1, v2, v3, v4, v5, v6, v7, v8, v9, v10, v11]) :: news) → (∀ p ∈ news, p.1 ≠ t) → Q (.ref t) { s with heap := h', toks := tk' }) :
    wpAny (model Challenge.rw_ok0038_01.row.prog w) (ktrTop dp un gd cn cs L a ccd cl outer) (call (.ref 58) [.ref x]) Q E s := by
  have N2 : News h₀ L s.heap [(x, instObj 61 dx), (dx, psD w.params k0 k1 k2 k3 k4 k5 k6 k7 k8 k9 k10 k11 v0 v1 v2 v3 v4 v5 v6 v7 v8 v9 v10 v11)] := fun p hp => by
    rcases List.mem_cons.mp hp with rfl | hp
    · exact N _ hm
    · rw [List.mem_singleton.mp hp]; exact N _ hm2
  refine wpAny_call (codeAny_mono (tup_spec B F X T hk hd hu hh N2) fun r s' h => ?_)
  have := h.go Q (fun t h' tk' KB e1 n1 => ret t h' tk' (KB.fr0 F) (news_cons F (KB.news0 N) n1 e1) (news_off N n1))
  revert this
  cases r with
  | ok f => cases f <;> exact id
  | error e => exact False.elim
end Mine
end

/-! ## part Inner1 -/
section
open PySem PySem.W PySem.Calls PyProof.Rows
set_option maxRecDepth 100000
namespace Mine
local macro_rules | `(tactic| k_handed) => `(tactic| ((rename Handed _ => hX'); exact Handed.at' hX' (by k_mem)))

theorem ints_cases {ys : List Value} {ms : List Int} (h : IntsAre ys ms) (hl : ms.length ≤ 3) :
    (ys = [] ∧ ms = []) ∨ (∃ a t, ys = [.int a t] ∧ ms = [a]) ∨ (∃ a t b u, ys = [.int a t, .int b u] ∧ ms = [a, b]) ∨ ∃ a t b u c v, ys = [.int a t, .int b u, .int c v] ∧ ms = [a, b, c] := by
  cases h with
  | nil => exact .inl ⟨rfl, rfl⟩
  | cons a t h => cases h with
    | nil => exact .inr (.inl ⟨a, t, rfl, rfl⟩)
    | cons b u h => cases h with
      | nil => exact .inr (.inr (.inl ⟨a, t, b, u, rfl, rfl⟩))
      | cons c v h => cases h with
        | nil => exact .inr (.inr (.inr ⟨a, t, b, u, c, v, rfl, rfl⟩))
        | cons d w h => simp only [List.length_cons] at hl; omega

theorem len_use {prog : Program} {w : World} {A : Around} {E : Value → Shared → Prop} {s : Shared} {h₀ : Heap} {L : Addr} {l : Addr} {ys : List Value} {ms : List Int} {news : List (Addr × Obj)} {Q : Value → Shared → Prop}
    (N : News h₀ L s.heap news) (hm : (l, tupO ys) ∈ news) (hi : IntsAre ys ms) (hl : ms.length ≤ 3) (h : Q (.int (ms.length : Int) (s.toks + 1)) { s with toks := s.toks + 1 + 1 }) : wpAny (model prog w) A (call (.builtin "len") [.ref l]) Q E s := by
  have e : ys.toArray.size = ms.length := by rw [List.size_toArray]; exact hi.length
  have ht : IsTup s.heap l ys.toArray := ⟨_, (N _ hm).1, rfl, _, rfl⟩
  exact len_tuple ht (by rw [e]; omega) (by rw [e]; exact h)

/-- the innermost open place, none where there is none -/
def innerD (ms : List Int) : PyData := match ms.getLast? with
  | some x => .int x
  | none => .none

structure IEnd (ms : List Int) (s : Shared) (r : Result) (s' : Shared) : Prop where
  go : ∀ Q : Value → Shared → Prop, (∀ v h' tk', KeepBut [] s.heap h' → pyOf v = some (innerD ms) → Q v { s with heap := h', toks := tk' }) →
    match r with | .ok (.ret v) => Q v s' | _ => False
theorem iEnd_of {ms : List Int} {v : Value} {s : Shared} {o o2 o3 : Obj} {h₀ g h' : Heap} {L L' x dx ao : Addr} {m' : Str → Option Value} {tk : Nat} {rest : List (Addr × Obj)}
    (N : News h₀ L s.heap [(x, o), (dx, o2), (ao, o3)]) (KB : KeepBut ([(x, o), (dx, o2), (ao, o3)].map (·.1)) s.heap g) (F' : Fr g L' h' m')
    (N' : News g L' h' rest) (sub : ∀ p ∈ [(x, o), (dx, o2), (ao, o3)], p ∈ rest) (hv : pyOf v = some (innerD ms)) :
    IEnd ms s (.ok (.ret v)) { s with heap := h', toks := tk } := ⟨fun Q hQ => hQ v h' tk (keep_all N KB F' N' sub) hv⟩

set_option maxHeartbeats 8000000 in
theorem inner_spec {w : World} {mg mb : Str → Option Value} {mean : ExcName → Option Value} {dp un : Nat} {gd : Option (List Code)} {cn : Str} {cs : Scope} {a : Addr} {ccd : Value} {cl : List (Str × Addr)} {outer : List Env} {A₀ : Around} {base h₀ : Heap} {L : Addr} {m : Str → Option Value} {s : Shared}
    {x dx ao : Addr} {k0 k1 k2 k3 k4 k5 k6 k7 k8 k9 k10 k11 : Tok} {v1 v2 v3 v4 v5 v6 v7 v8 v9 v10 v11 : Value} {ys : List Value} {ms : List Int}
    (B : Below A₀ base outer h₀) (F : Fr h₀ L s.heap m) (X : (hdA.heap_39 w.params).In h₀)
    (T : Top hdA.view_39 (looseW hdA.view_39 [Str.ofString "ParseState"]) mean mg mb h₀) (hk : cs.kind = .function)
    (hd : dp + 30 < recursionLimit) (hu : un + 150 < cLine)
    (hi : IntsAre ys ms) (hl : ms.length ≤ 3)
    (N : News h₀ L s.heap [(x, instObj 61 dx), (dx, psD w.params k0 k1 k2 k3 k4 k5 k6 k7 k8 k9 k10 k11 (.ref ao) v1 v2 v3 v4 v5 v6 v7 v8 v9 v10 v11), (ao, tupO ys)]) :
    codeAny (model Challenge.rw_ok0038_01.row.prog w) (ktrTop dp un gd cn cs L a ccd cl outer) (.call (.ref 44) ⟨[.ref x], []⟩) (IEnd ms s) s := by
  revert X; k_fill; intro X
  k_dflt (refine' enterG ?k1 ?k2 ?k3 ?k4 ?k5 ?kA ?kF ?kK ?k6 ?k7 ?k8 ?k9 ?kB ?_ ?c2 ?c3 ?c4 ?c5; (case kA => exact rfl); (case kF => exact rfl); (case kK => assumption); (case k1 => k_asm); (case k2 => k_asm); (case k3 => k_asm); (case k4 => k_asm); (case k5 => k_asm); (case k6 => k_is); (case k7 => k_is); (case k8 => dsimp only [ktrTop]; omega); (case k9 => exact BindsTo.of_eq rfl); (case c5 => decide); (case kB => exact locs rfl); (case c2 => exact rfl); (case c3 => exact rfl); (case c4 => exact rfl); k_whole; intro g' L' h' KB' hsz' FG' F' N' B' X' T'; (try dsimp only); (try k_fold))
  rcases ints_cases hi hl with ⟨rfl, rfl⟩ | ⟨i1, t1, rfl, rfl⟩ | ⟨i1, t1, i2, t2, rfl, rfl⟩ | ⟨i1, t1, i2, t2, i3, t3, rfl, rfl⟩
  all_goals clear hi
  all_goals k_steps
  all_goals exact iEnd_of N KB' (by assumption) (by assumption) (fun _ h => h) rfl

theorem inner_use {w : World} {mg mb : Str → Option Value} {mean : ExcName → Option Value} {dp un : Nat} {gd : Option (List Code)} {cn : Str} {cs : Scope} {a : Addr} {ccd : Value} {cl : List (Str × Addr)} {outer : List Env} {A₀ : Around} {base h₀ : Heap} {L : Addr} {m : Str → Option Value} {s : Shared}
    {x dx ao : Addr} {k0 k1 k2 k3 k4 k5 k6 k7 k8 k9 k10 k11 : Tok} {v1 v2 v3 v4 v5 v6 v7 v8 v9 v10 v11 : Value} {ys : List Value} {ms : List Int} {news : List (Addr × Obj)} {Q E : Value → Shared → Prop}
    (B : Below A₀ base outer h₀) (F : Fr h₀ L s.heap m) (X : (hdA.heap_39 w.params).In h₀)
    (T : Top hdA.view_39 (looseW hdA.view_39 [Str.ofString "ParseState"]) mean mg mb h₀) (hk : cs.kind = .function)
    (N : News h₀ L s.heap news) (hm : (x, instObj 61 dx) ∈ news) (hm2 : (dx, psD w.params k0 k1 k2 k3 k4 k5 k6 k7 k8 k9 k10 k11 (.ref ao) v1 v2 v3 v4 v5 v6 v7 v8 v9 v10 v11) ∈ news) (hm3 : (ao, tupO ys) ∈ news)
    (hi : IntsAre ys ms) (hl : ms.length ≤ 3)
    (hd : dp + 30 < recursionLimit) (hu : un + 150 < cLine)
    (ret : ∀ v h' tk', Fr h₀ L h' m → News h₀ L h' news → pyOf v = some (innerD ms) → Q v { s with heap := h', toks := tk' }) :
    wpAny (model Challenge.rw_ok0038_01.row.prog w) (ktrTop dp un gd cn cs L a ccd cl outer) (call (.ref 44) [.ref x]) Q E s := by
  have N2 : News h₀ L s.heap [(x, instObj 61 dx), (dx, psD w.params k0 k1 k2 k3 k4 k5 k6 k7 k8 k9 k10 k11 (.ref ao) v1 v2 v3 v4 v5 v6 v7 v8 v9 v10 v11), (ao, tupO ys)] := fun p hp => by
    rcases List.mem_cons.mp hp with rfl | hp
    · exact N _ hm
    · rcases List.mem_cons.mp hp with rfl | hp
      · exact N _ hm2
      · rw [List.mem_singleton.mp hp]; exact N _ hm3
  refine wpAny_call (codeAny_mono (inner_spec B F X T hk hd hu hi hl N2) fun r s' h => ?_)
  have := h.go Q (fun v h' tk' KB e1 => ret v h' tk' (KB.fr0 F) (KB.news0 N) e1)
  revert this
  cases r with
  | ok f => cases f <;> exact id
  | error e => exact False.elim
end Mine
end

/-! ## part Told1 -/
section
open PySem PySem.W PySem.Calls PyProof.Rows
set_option maxRecDepth 100000
namespace Mine
/-- what the Lisp is told of a string, of a comment -/
def toldS : Value → PyData
  | .none => .none
  | .int i _ => if i = 0 then .bool true else .int i
  | _ => .none
def deepD (xd : Int) (bn : Bool) : PyData := if xd = 0 then .none else if xd < 0 ∨ bn = false then .bool true else .int xd

structure LEnd (ao : Addr) (ms : List Int) (xb xl xd : Int) (vw vt vy va : Value) (bn bq : Bool) (s : Shared) (r : Result) (s' : Shared) : Prop where
  go : ∀ Q : Value → Shared → Prop, (∀ t vi vs vc ta tb h' tk', KeepBut [] s.heap h' → h'.get? t = some (tupO [.int ((ms.length : Int) - xb) ta, vi, vw, vs, vc, .bool bq, .int xl tb, vy, va, .ref ao]) → s.heap.get? t = none →
      pyOf vi = some (innerD ms) → pyOf vs = some (toldS vt) → pyOf vc = some (deepD xd bn) → Q (.ref t) { s with heap := h', toks := tk' }) →
    match r with | .ok (.ret v) => Q v s' | _ => False
theorem lEnd_of {ms : List Int} {xb xl xd : Int} {vw vt vy va vi vs vc : Value} {bn bq : Bool} {s : Shared} {o o2 o3 : Obj} {h₀ g h' : Heap} {L L' t x dx ao : Addr} {m' : Str → Option Value} {tk : Nat} {ta tb : Tok} {rest : List (Addr × Obj)}
    (N : News h₀ L s.heap [(x, o), (dx, o2), (ao, o3)]) (KB : KeepBut ([(x, o), (dx, o2), (ao, o3)].map (·.1)) s.heap g) (F' : Fr g L' h' m')
    (N' : News g L' h' ((t, tupO [.int ((ms.length : Int) - xb) ta, vi, vw, vs, vc, .bool bq, .int xl tb, vy, va, .ref ao]) :: rest)) (sub : ∀ p ∈ [(x, o), (dx, o2), (ao, o3)], p ∈ rest)
    (hi : pyOf vi = some (innerD ms)) (hs : pyOf vs = some (toldS vt)) (hc : pyOf vc = some (deepD xd bn)) (h1 : @LT.lt Nat _ x t) (h2 : @LT.lt Nat _ dx t) (h3 : @LT.lt Nat _ ao t) :
    LEnd ao ms xb xl xd vw vt vy va bn bq s (.ok (.ret (.ref t))) { s with heap := h', toks := tk } := by
  refine ⟨fun Q hQ => hQ t vi vs vc ta tb h' tk (keep_all N KB F' N' fun p hp => .tail _ (sub p hp)) (N' _ (.head _)).1 (fresh_in N KB N' (.head _) ?_) hi hs hc⟩
  simp only [List.map_cons, List.map_nil, List.mem_cons, List.not_mem_nil, or_false]
  rintro (q | q | q)
  · exact absurd h1 (q ▸ Nat.lt_irrefl _)
  · exact absurd h2 (q ▸ Nat.lt_irrefl _)
  · exact absurd h3 (q ▸ Nat.lt_irrefl _)

local macro_rules | `(tactic| k_handed) => `(tactic| ((rename Handed _ => hX'); exact Handed.at' hX' (by k_mem)))
local macro_rules | `(tactic| k_enter) => `(tactic| (
  refine' code_def ?k1 ?k2 ?k3 ?k4 ?k5 ?kA ?kF ?kK ?k6 ?k7 ?k8 ?k9 ?kB ?_ ?c2 ?c3 ?c4 ?c5; (case kA => exact rfl); (case kF => exact rfl); (case kK => exact rfl); (case k1 => k_asm); (case k2 => k_asm); (case k3 => k_asm); (case k4 => k_asm); (case k5 => k_asm); (case k6 => k_is); (case k7 => k_is); (case k8 => (simp only [depth_under_make, depth_under_kw, depth_in1, depth_deeper, ktrTop]; omega)); (case k9 => first | exact BindsTo.of_eq rfl | exact binds_K (by k_in) rfl (by k_is) rfl rfl rfl); (case c5 => decide); (case kB => exact locs rfl); (case c2 => exact rfl); (case c3 => exact rfl); (case c4 => exact rfl); k_whole; intro g' L' h' FG' F' N' B' X' T'; (try dsimp only); (try k_lift B'); (try k_fold)))
local macro_rules | `(tactic| walk_at "call ref") => `(tactic| (
  k_here; (k_dflt (show wpAny _ _ (call (Value.ref 44) [Value.ref _]) _ _ _))
  k_dflt (refine' inner_use (by k_asm) (by k_asm) (by k_asm) (by k_asm) (by first | exact rfl | assumption) (by k_asm) (by k_mem) (by k_mem) (by k_mem) (by assumption) (by assumption) (by simp only [depth_deeper, ktrTop] at *; omega) (by simp only [units_deeper, ktrTop] at *; omega) ?_; k_whole)
  intro v' h' tk' F' N' hv'; (try k_sweep)))

local macro_rules | `(tactic| walk_at "call builtin:len") => `(tactic| (
  k_here; (with_reducible show wpAny _ _ (call (Value.builtin "len") [Value.ref _]) _ _ _)
  k_dflt (refine' len_use (by k_asm) (by k_mem) (by assumption) (by assumption) ?_)))
set_option maxHeartbeats 8000000 in
theorem told_spec {w : World} {mg mb : Str → Option Value} {mean : ExcName → Option Value} {dp un : Nat} {gd : Option (List Code)} {cn : Str} {cs : Scope} {a : Addr} {ccd : Value} {cl : List (Str × Addr)} {outer : List Env} {A₀ : Around} {base h₀ : Heap} {L : Addr} {m : Str → Option Value} {s : Shared}
    {x dx ao : Addr} {k0 k1 k2 k3 k4 k5 k6 k7 k8 k9 k10 k11 : Tok} {ys : List Value} {ms : List Int} {xb xl xd : Int} {vw vd vt vy va vh : Value} {bn bq : Bool} {tb tl td : Tok}
    (B : Below A₀ base outer h₀) (F : Fr h₀ L s.heap m) (X : (hdA.heap_39 w.params).In h₀)
    (T : Top hdA.view_39 (looseW hdA.view_39 [Str.ofString "ParseState"]) mean mg mb h₀) (hk : cs.kind = .function)
    (hd : dp + 60 < recursionLimit) (hu : un + 250 < cLine)
    (hi : IntsAre ys ms) (hl : ms.length ≤ 3) (hxd : -5 ≤ xd ∧ xd ≤ 5) (hxb : 0 ≤ xb ∧ xb < 3) (ht : vt = .none ∨ ∃ i t, vt = .int i t)
    (hh : Handed [vw, vd, vy, va, vh])
    (N : News h₀ L s.heap [(x, instObj 61 dx), (dx, psD w.params k0 k1 k2 k3 k4 k5 k6 k7 k8 k9 k10 k11 (.ref ao) (.int xb tb) (.int xl tl) vw vd vt (.int xd td) vy (.bool bn) va (.bool bq) vh), (ao, tupO ys)]) :
    codeAny (model Challenge.rw_ok0038_01.row.prog w) (ktrTop dp un gd cn cs L a ccd cl outer) (.call (.ref 79) ⟨[.ref x], []⟩) (LEnd ao ms xb xl xd vw vt vy va bn bq s) s := by
  revert X; k_fill; intro X
  k_dflt (refine' enterG ?k1 ?k2 ?k3 ?k4 ?k5 ?kA ?kF ?kK ?k6 ?k7 ?k8 ?k9 ?kB ?_ ?c2 ?c3 ?c4 ?c5; (case kA => exact rfl); (case kF => exact rfl); (case kK => assumption); (case k1 => k_asm); (case k2 => k_asm); (case k3 => k_asm); (case k4 => k_asm); (case k5 => k_asm); (case k6 => k_is); (case k7 => k_is); (case k8 => dsimp only [ktrTop]; omega); (case k9 => exact BindsTo.of_eq rfl); (case c5 => decide); (case kB => exact locs rfl); (case c2 => exact rfl); (case c3 => exact rfl); (case c4 => exact rfl); k_whole; intro g' L' h' KB' hsz' FG' F' N' B' X' T'; (try dsimp only); (try k_fold))
  rcases ht with rfl | ⟨i0, t0, rfl⟩
  all_goals k_steps
  all_goals (refine lEnd_of N KB' (by assumption) (by assumption) (fun _ h => h) (by assumption) ?_ ?_ (by omega) (by omega) (by omega))
  all_goals simp_all [pyOf, toldS, deepD]

theorem told_use {w : World} {mg mb : Str → Option Value} {mean : ExcName → Option Value} {dp un : Nat} {gd : Option (List Code)} {cn : Str} {cs : Scope} {a : Addr} {ccd : Value} {cl : List (Str × Addr)} {outer : List Env} {A₀ : Around} {base h₀ : Heap} {L : Addr} {m : Str → Option Value} {s : Shared}
    {x dx ao : Addr} {k0 k1 k2 k3 k4 k5 k6 k7 k8 k9 k10 k11 : Tok} {ys : List Value} {ms : List Int} {xb xl xd : Int} {vw vd vt vy va vh : Value} {bn bq : Bool} {tb tl td : Tok} {news : List (Addr × Obj)} {Q E : Value → Shared → Prop}
    (B : Below A₀ base outer h₀) (F : Fr h₀ L s.heap m) (X : (hdA.heap_39 w.params).In h₀)
    (T : Top hdA.view_39 (looseW hdA.view_39 [Str.ofString "ParseState"]) mean mg mb h₀) (hk : cs.kind = .function)
    (N : News h₀ L s.heap news) (hm : (x, instObj 61 dx) ∈ news) (hm2 : (dx, psD w.params k0 k1 k2 k3 k4 k5 k6 k7 k8 k9 k10 k11 (.ref ao) (.int xb tb) (.int xl tl) vw vd vt (.int xd td) vy (.bool bn) va (.bool bq) vh) ∈ news) (hm3 : (ao, tupO ys) ∈ news)
    (hi : IntsAre ys ms) (hl : ms.length ≤ 3) (hxd : -5 ≤ xd ∧ xd ≤ 5) (hxb : 0 ≤ xb ∧ xb < 3) (ht : vt = .none ∨ ∃ i t, vt = .int i t) (hh : Handed [vw, vd, vy, va, vh])
    (hd : dp + 60 < recursionLimit) (hu : un + 250 < cLine)
    (ret : ∀ t vi vs vc ta tb h' tk', Fr h₀ L h' m → News h₀ L h' ((t, tupO [.int ((ms.length : Int) - xb) ta, vi, vw, vs, vc, .bool bq, .int xl tb, vy, va, .ref ao]) :: news) → (∀ p ∈ news, p.1 ≠ t) →
      pyOf vi = some (innerD ms) → pyOf vs = some (toldS vt) → pyOf vc = some (deepD xd bn) → Q (.ref t) { s with heap := h', toks := tk' }) :
    wpAny (model Challenge.rw_ok0038_01.row.prog w) (ktrTop dp un gd cn cs L a ccd cl outer) (call (.ref 79) [.ref x]) Q E s := by
  have N2 : News h₀ L s.heap [(x, instObj 61 dx), (dx, psD w.params k0 k1 k2 k3 k4 k5 k6 k7 k8 k9 k10 k11 (.ref ao) (.int xb tb) (.int xl tl) vw vd vt (.int xd td) vy (.bool bn) va (.bool bq) vh), (ao, tupO ys)] := fun p hp => by
    rcases List.mem_cons.mp hp with rfl | hp
    · exact N _ hm
    · rcases List.mem_cons.mp hp with rfl | hp
      · exact N _ hm2
      · rw [List.mem_singleton.mp hp]; exact N _ hm3
  refine wpAny_call (codeAny_mono (told_spec B F X T hk hd hu hi hl hxd hxb ht hh N2) fun r s' h => ?_)
  have := h.go Q (fun t vi vs vc ta tb h' tk' KB e1 n1 p1 p2 p3 => ret t vi vs vc ta tb h' tk' (KB.fr0 F) (news_cons F (KB.news0 N) n1 e1) (news_off N n1) p1 p2 p3)
  revert this
  cases r with
  | ok f => cases f <;> exact id
  | error e => exact False.elim
end Mine
end

/-! ## part Opt1 -/
section
open PySem PySem.W PySem.Calls PyProof.Rows PyProof.V PySem.Spec
set_option maxRecDepth 100000
namespace Mine

/-! a dict whose keys are None or ints -/
def isOpt : Option Int → Value → Bool
  | none, .none => true
  | some i, .int j _ => j == i
  | _, _ => false
def encO : Option Int → PyData
  | none => .none
  | some i => .int i
def hashO : Option Int → Int
  | none => 0xFCA86420
  | some i => hashInt i

theorem isOpt_shape {k : Option Int} {v : Value} (h : isOpt k v = true) : (k = none ∧ v = .none) ∨ ∃ i t, k = some i ∧ v = .int i t := by
  cases k with
  | none => cases v <;> simp_all [isOpt]
  | some i => cases v <;> simp_all [isOpt]

theorem same_encO (a b : Option Int) : Spec.same (encO a) (encO b) = decide (a = b) := by
  cases a with
  | none => cases b <;> simp [encO, Spec.same]
  | some i => cases b with
    | none => simp [encO, Spec.same]
    | some j => by_cases h : i = j <;> simp [encO, Spec.same, h]

section
variable {prog : Program} {w : World} {A : Around} {E : Value → Shared → Prop} {s : Shared}
theorem pyHash_none {Q : Int → Shared → Prop} (h : Q 0xFCA86420 { s with toks := s.toks + 1 }) : wpAny (model prog w) A (pyHash .none) Q E s := by
  unfold pyHash
  have hv : [Value.none].any Value.onHeap = false := rfl
  refine wpAny_bind ?_
  rw [cRoomFor, if_neg (by rw [hv]; exact Bool.false_ne_true)]; refine wpAny_pure ?_
  refine wpAny_bind (wpAny_specialOf (T := "NoneType") rfl PySem.F.slot_NoneType_hash.lookup ?_)
  show wpAny _ _ (if (some (Value.builtin "NoneType.__hash__") == some Value.none) = true then _ else _) Q E s
  rw [if_neg (by rw [beq_builtin_none]; exact Bool.false_ne_true)]
  refine wpAny_bind (wpAny_specialOf (T := "NoneType") rfl PySem.F.slot_NoneType_hash.lookup ?_)
  show wpAny _ _ (callSpecialIfBoundUnlessNone? .none "__hash__" _ >>= _) Q E s
  refine wpAny_bind (wpAny_callSpecialIfBoundUnlessNone?_slot (T := "NoneType") rfl PySem.F.slot_NoneType_hash
    (wpAny_call_entry PySem.F.slot_NoneType_hash rfl PySem.F.entry_NoneType_hash
      (show wpAny _ _ (do ret (← mkInt 0xFCA86420)) _ _ s from wpAny_ret_mkInt ?_) (PySem.F.args_NoneType_hash_1 _)))
  exact wpAny_pure h

theorem eqBool_opt {a b : Option Int} {u v : Value} {Q : Bool → Shared → Prop} (hu : isOpt a u = true) (hv : isOpt b v = true) (h : Q (decide (a = b)) s) : wpAny (model prog w) A (eqBool u v) Q E s := by
  rcases isOpt_shape hu with ⟨rfl, rfl⟩ | ⟨i, t, rfl, rfl⟩ <;> rcases isOpt_shape hv with ⟨rfl, rfl⟩ | ⟨j, t', rfl, rfl⟩
  · unfold eqBool
    exact wpAny_bind (wpAny_rule (wpAny_pure (by simpa using h)))
  · unfold eqBool
    exact wpAny_bind (EqNone.eq_none_int (wpAny_truthy_bool (by simpa using h)))
  · unfold eqBool
    exact wpAny_bind (EqNone.eq_int_none (wpAny_truthy_bool (by simpa using h)))
  · exact wpAny_eqBool_int (by
      have e : (i == j) = decide ((some i : Option Int) = some j) := by by_cases q : i = j <;> simp [q]
      rw [e]; exact h)
end

def optKind (prog : Program) (w : World) : PySem.KeyKind prog w (Option Int) where
  is := isOpt
  hash := hashO
  inj := fun v a b ha hb => by
    rcases isOpt_shape ha with ⟨rfl, rfl⟩ | ⟨i, t, rfl, rfl⟩ <;> rcases isOpt_shape hb with ⟨rfl, h⟩ | ⟨j, t', rfl, h⟩
    · rfl
    · cases h
    · cases h
    · cases h; rfl
  byValue := fun k v h => by rcases isOpt_shape h with ⟨rfl, rfl⟩ | ⟨i, t, rfl, rfl⟩ <;> rfl
  pyHash := fun hv h => by
    rcases isOpt_shape hv with ⟨rfl, rfl⟩ | ⟨i, t, rfl, rfl⟩
    · exact pyHash_none h
    · exact wpAny_pyHash_int h
  eqBool := fun hu hv h => eqBool_opt hu hv h
  «strs» := fun k x t v h => by rcases isOpt_shape h with ⟨_, h⟩ | ⟨_, _, _, h⟩ <;> cases h

theorem flat_of {v : Value} {d : PyData} (h : pyOf v = some d) : Flat v d := by
  cases v <;> simp only [pyOf, Option.some.injEq, reduceCtorEq] at h <;> subst h <;> intro _
  · exact .none
  · exact .bool _
  · exact .int _ _
  · exact .str _ _
theorem pyOf_flat {v : Value} {d : PyData} (h : Flat v d) (hd : d = .none ∨ (∃ b, d = .bool b) ∨ ∃ i, d = .int i) : pyOf v = some d := by
  have r := h {}
  rcases hd with rfl | ⟨b, rfl⟩ | ⟨i, rfl⟩ <;> cases r <;> rfl

/-- the law's table of strings told -/
abbrev tabKvs : List (Option Int × Value) := [(none, .none), (some 0, .bool true)]
abbrev tabD : List (PyData × PyData) := [(.none, .none), (.int 0, .bool true)]
theorem tab_flat : FlatPairs encO tabKvs tabD := .cons Flat.none (.cons (Flat.bool true) .nil)

section
variable {prog : Program} {w : World} {A : Around} {E : Value → Shared → Prop} {s : Shared} {env : Env} {h₀ : Heap} {L d : Addr} {m : Str → Option Value} {news : List (Addr × Obj)} {g : Obj → List (Addr × Obj)} {o : Obj} {Q : Value → Shared → Prop}
theorem opt_made {t : Tok} (F : Fr h₀ L s.heap m) (N : News h₀ L s.heap news) (U : UpdF d o news g) (hd : o.IsDictOf (optKind prog w) [])
    (h : ∀ h' o', Fr h₀ L h' m → News h₀ L h' (g o') → o'.IsDictOf (optKind prog w) tabKvs → FlatPairs encO tabKvs tabD → Q (.ref d) { s with heap := h', toks := s.toks + 2 }) :
    KdnMade prog w (optKind prog w) d Q [(.none, .none), (.int 0 t, .bool true)] s := by
  obtain ⟨pre, post, rfl, hg, a, b⟩ := U.split
  have hm := N (d, o) (List.mem_append_right _ (.head _))
  refine ⟨tabKvs, ⟨rfl, rfl, rfl, rfl, trivial⟩, Heap.dictOf_iff.mpr ⟨o, hm.1, hd⟩, fun h' hmm hs => ?_⟩
  obtain ⟨o', ho', hd'⟩ := Heap.dictOf_iff.mp hmm
  have e : merged [] tabKvs = tabKvs := by simp [merged, stored, tabKvs]
  rw [e] at hd'
  exact h h' o' (F.change hs hm.2.1 hm.2.2) (hg o' ▸ N.setIn a b hs ho') hd' tab_flat

theorem tab_lookup {v vt : Value} (ht : vt = .none ∨ ∃ i t, vt = .int i t) : ∃ k, isOpt k vt = true ∧ ∃ dd, pyOf vt = some dd ∧ (Flat v ((Spec.lookup (encO k) tabD).getD dd) → pyOf v = some (toldS vt)) := by
  rcases ht with rfl | ⟨i, t, rfl⟩
  · exact ⟨none, rfl, .none, rfl, fun h => pyOf_flat (by simpa [Spec.lookup, encO, tabD, toldS, Spec.same] using h) (.inl rfl)⟩
  · refine ⟨some i, by simp [isOpt], .int i, rfl, fun h => ?_⟩
    by_cases hi : i = 0
    · subst hi
      exact pyOf_flat (by simpa [Spec.lookup, encO, tabD, toldS, Spec.same] using h) (.inr (.inl ⟨true, by simp [toldS]⟩))
    · refine pyOf_flat ?_ (.inr (.inr ⟨i, by simp [toldS, hi]⟩))
      have hi' : ¬ (0 : Int) = i := fun e => hi e.symm
      simpa [Spec.lookup, encO, tabD, toldS, Spec.same, hi, hi'] using h

theorem get_use {vt : Value} (T : TabAt (optKind prog w) encO s.heap d tabD) (ht : vt = .none ∨ ∃ i t, vt = .int i t)
    (h : ∀ v, pyOf v = some (toldS vt) → Q v { s with toks := s.toks + 1 }) : wpAny (model prog w) A (call (.builtin "dict.get") [.ref d, vt, vt]) Q E s := by
  obtain ⟨k, hk, dd, hdd, _⟩ := tab_lookup (v := vt) ht
  refine call_get2_tab same_encO hk T (flat_of hdd) fun v hv => h v ?_
  obtain ⟨k', hk', dd', hdd', hf⟩ := tab_lookup (v := v) ht
  have e1 : k' = k := (optKind prog w).inj vt k' k hk' hk
  have e2 : dd' = dd := Option.some.inj (hdd'.symm.trans hdd)
  subst e1; subst e2
  exact hf hv

def isNone : Value → Bool
  | .none => true
  | _ => false
theorem is_none_use {M : Model} {vt : Value} (ht : vt = .none ∨ ∃ i t, vt = .int i t) (h : Q (.bool (isNone vt)) s) : wpAny M A (compareOp .Is vt .none) Q E s := by
  rcases ht with rfl | ⟨i, t, rfl⟩
  · exact wpAny_is_self rfl h
  · exact wpAny_is_other rfl (by intro x; cases x) h
end
end Mine
namespace Mine
section
variable {M : Model} {A : Around} {E : Value → Shared → Prop} {s : Shared} {h₀ : Heap} {L : Addr} {m : Str → Option Value} {news : List (Addr × Obj)}
/-- a statement that leaves one name with a value that reads as d (and one more name forgotten) -/
def StEnd (h₀ : Heap) (L : Addr) (m : Str → Option Value) (news : List (Addr × Obj)) (x tmp : Str) (d : PyData) (s : Shared) (fl : Flow) (s' : Shared) : Prop :=
  fl = .next ∧ ∃ h' tk m' v, s' = { s with heap := h', toks := tk } ∧ Fr h₀ L h' m' ∧ News h₀ L h' news ∧ m' x = some v ∧ pyOf v = some d ∧ ∀ y, y ≠ x → y ≠ tmp → m' y = m y
theorem StEnd.of {x tmp : Str} {d : PyData} {h' : Heap} {tk : Nat} {m' : Str → Option Value} {v : Value} (F : Fr h₀ L h' m') (N : News h₀ L h' news) (hx : m' x = some v) (hv : pyOf v = some d) (hm : ∀ y, y ≠ x → y ≠ tmp → m' y = m y) :
    StEnd h₀ L m news x tmp d s .next { s with heap := h', toks := tk } := ⟨rfl, h', tk, m', v, rfl, F, N, hx, hv, hm⟩
theorem st_meet {t : Sem Flow} {Q : Flow → Shared → Prop} (x tmp : Str) (d : PyData) (_F : Fr h₀ L s.heap m) (_N : News h₀ L s.heap news) (walk : wpAny M A t (StEnd h₀ L m news x tmp d s) E s)
    (ret : ∀ h' tk v u, Fr h₀ L h' (fun y => if y = x then some v else if y = tmp then u else m y) → News h₀ L h' news → pyOf v = some d → Q .next { s with heap := h', toks := tk }) : wpAny M A t Q E s := by
  refine wpAny_mono walk (fun fl s' h => ?_) fun _ _ e => e
  obtain ⟨rfl, h', tk, m', v, rfl, F', N', hx, hv, hm⟩ := h
  refine ret h' tk v (m' tmp) ?_ N' hv
  have e : (fun y => if y = x then some v else if y = tmp then m' tmp else m y) = m' := by
    funext y
    by_cases h1 : y = x
    · subst h1; simp [hx]
    · by_cases h2 : y = tmp
      · subst h2; simp [h1]
      · simp [h1, h2, hm y h1 h2]
  rw [e]; exact F'
/-- an expression without a trace but for its value -/
def ValEnd (P : Value → Prop) (s : Shared) (v : Value) (s' : Shared) : Prop := P v ∧ ∃ tk, s' = { s with toks := tk }
theorem ValEnd.of {P : Value → Prop} {v : Value} {tk : Nat} (h : P v) : ValEnd P s v { s with toks := tk } := ⟨h, tk, rfl⟩
theorem val_meet {t : Sem Value} {Q : Value → Shared → Prop} (P : Value → Prop) (walk : wpAny M A t (ValEnd P s) E s) (ret : ∀ tk v, P v → Q v { s with toks := tk }) : wpAny M A t Q E s :=
  wpAny_mono walk (fun v s' ⟨h, tk, e⟩ => e ▸ ret tk v h) fun _ _ e => e
end
end Mine
end

/-! ## part Due1 -/
section
open PySem PySem.W PySem.Calls PyProof.Rows PyProof.V
set_option maxRecDepth 100000
namespace Mine
/-- what the walk is told: the data of the three joins -/
structure JoinSay (ms : List Int) (xd : Int) (bn : Bool) (vt : Value) : Prop where
theorem forMark {M : Model} {A : Around} {E : Value → Shared → Prop} {s : Shared} {h₀ : Heap} {L : Addr} {m : Str → Option Value} {news : List (Addr × Obj)} {ms : List Int} {xd : Int} {bn : Bool} {vt : Value} {t : Sem Flow} {Q : Flow → Shared → Prop} (_J : JoinSay ms xd bn vt)
    (F : Fr h₀ L s.heap m) (N : News h₀ L s.heap news) (walk : wpAny M A t (StEnd h₀ L m news (Str.ofString "inner") (Str.ofString "place") (innerD ms) s) E s)
    (ret : ∀ h' tk v u, Fr h₀ L h' (fun y => if y = Str.ofString "inner" then some v else if y = Str.ofString "place" then u else m y) → News h₀ L h' news → pyOf v = some (innerD ms) → Q .next { s with heap := h', toks := tk }) : wpAny M A t Q E s := st_meet _ _ _ F N walk ret
theorem ifMark {M : Model} {A : Around} {E : Value → Shared → Prop} {s : Shared} {h₀ : Heap} {L : Addr} {m : Str → Option Value} {news : List (Addr × Obj)} {ms : List Int} {xd : Int} {bn : Bool} {vt : Value} {t : Sem Flow} {Q : Flow → Shared → Prop} (_J : JoinSay ms xd bn vt)
    (F : Fr h₀ L s.heap m) (N : News h₀ L s.heap news) (walk : wpAny M A t (StEnd h₀ L m news (Str.ofString "told_deep") (Str.ofString "told_deep") (deepD xd bn) s) E s)
    (ret : ∀ h' tk v u, Fr h₀ L h' (fun y => if y = Str.ofString "told_deep" then some v else if y = Str.ofString "told_deep" then u else m y) → News h₀ L h' news → pyOf v = some (deepD xd bn) → Q .next { s with heap := h', toks := tk }) : wpAny M A t Q E s := st_meet _ _ _ F N walk ret
def plainB (vt : Value) (xd : Int) : Bool := isNone vt && decide (xd = 0)
theorem boolMark {M : Model} {A : Around} {E : Value → Shared → Prop} {s : Shared} {ms : List Int} {xd : Int} {bn : Bool} {vt : Value} {t : Sem Value} {Q : Value → Shared → Prop} (_J : JoinSay ms xd bn vt)
    (walk : wpAny M A t (ValEnd (fun v => v = .bool (plainB vt xd)) s) E s) (ret : ∀ tk, Q (.bool (plainB vt xd)) { s with toks := tk }) : wpAny M A t Q E s := val_meet _ walk fun tk v h => h ▸ ret tk
theorem deep_none {xd : Int} {bn : Bool} (h : xd = 0) : pyOf .none = some (deepD xd bn) := by simp [pyOf, deepD, h]
theorem deep_int {xd : Int} {bn : Bool} {t : Tok} (h1 : bn = true) (h2 : 0 < xd) : pyOf (.int xd t) = some (deepD xd bn) := by
  have a : ¬ xd = 0 := by omega
  have b : ¬ xd < 0 := by omega
  simp [pyOf, deepD, h1, a, b]
theorem deep_true1 {xd : Int} {bn : Bool} (h1 : bn = false) (h2 : xd ≠ 0) : pyOf (.bool true) = some (deepD xd bn) := by simp [pyOf, deepD, h1, h2]
theorem deep_true2 {xd : Int} {bn : Bool} (h1 : xd ≠ 0) (h2 : ¬ 0 < xd) : pyOf (.bool true) = some (deepD xd bn) := by
  have a : xd < 0 := by omega
  simp [pyOf, deepD, h1, a]
theorem plain_a {vt : Value} {xd : Int} (h : isNone vt = false) : Value.bool (isNone vt) = .bool (plainB vt xd) := by simp [plainB, h]
theorem plain_b {vt : Value} {xd : Int} (h : isNone vt = true) : Value.bool (xd == 0) = .bool (plainB vt xd) := by
  by_cases q : xd = 0 <;> simp [plainB, h, q]
theorem plain_c {vt : Value} {xd : Int} (h : isNone vt = false) : Value.bool false = .bool (plainB vt xd) := by simp [plainB, h]
theorem eq_false_of {b : Bool} (h : ¬ b = true) : b = false := by cases b <;> simp_all
abbrev lstO (vs : List Value) : Obj := W.listOf vs.toArray 0
/-- what the law's own reading leaves: a pair of new lists -/
structure DEnd (ao : Addr) (ms : List Int) (xb xl xd : Int) (vw vt vy va : Value) (bn bq : Bool) (s : Shared) (r : Result) (s' : Shared) : Prop where
  go : ∀ Q : Value → Shared → Prop, (∀ t l1 l2 vi vs vc ta tb tc h' tk', KeepBut [] s.heap h' → h'.get? t = some (tupO [.ref l1, .ref l2]) → h'.get? l1 = some (lstO [.int ((ms.length : Int) - xb) ta, vi, .bool (plainB vt xd)]) →
      h'.get? l2 = some (lstO [.int ((ms.length : Int) - xb) tc, vi, vw, vs, vc, .bool bq, .int xl tb, vy, va, .ref ao]) → s.heap.get? t = none → s.heap.get? l1 = none → s.heap.get? l2 = none → l1 < l2 → l2 < t →
      pyOf vi = some (innerD ms) → pyOf vs = some (toldS vt) → pyOf vc = some (deepD xd bn) → Q (.ref t) { s with heap := h', toks := tk' }) →
    match r with | .ok (.ret v) => Q v s' | _ => False
theorem dEnd_of {ms : List Int} {xb xl xd : Int} {vw vt vy va vi vs vc : Value} {bn bq : Bool} {s : Shared} {o o2 : Obj} {h₀ g h' : Heap} {L L' x ao t l1 l2 : Addr} {m' : Str → Option Value} {tk : Nat} {ta tb tc : Tok} {rest : List (Addr × Obj)}
    (N : News h₀ L s.heap [(x, o), (ao, o2)]) (KB : KeepBut ([(x, o), (ao, o2)].map (·.1)) s.heap g) (F' : Fr g L' h' m')
    (N' : News g L' h' ((t, tupO [.ref l1, .ref l2]) :: (l2, lstO [.int ((ms.length : Int) - xb) tc, vi, vw, vs, vc, .bool bq, .int xl tb, vy, va, .ref ao]) :: (l1, lstO [.int ((ms.length : Int) - xb) ta, vi, .bool (plainB vt xd)]) :: rest))
    (m1 : (x, o) ∈ rest) (m2 : (ao, o2) ∈ rest)
    (hi : pyOf vi = some (innerD ms)) (hs : pyOf vs = some (toldS vt)) (hc : pyOf vc = some (deepD xd bn)) (h1 : @LT.lt Nat _ x l1) (h2 : @LT.lt Nat _ ao l1) (h3 : @LT.lt Nat _ l1 l2) (h4 : @LT.lt Nat _ l2 t) :
    DEnd ao ms xb xl xd vw vt vy va bn bq s (.ok (.ret (.ref t))) { s with heap := h', toks := tk } := by
  have off : ∀ z, @LE.le Nat _ l1 z → z ∉ ([(x, o), (ao, o2)].map (·.1)) := fun z hz => by
    simp only [List.map_cons, List.map_nil, List.mem_cons, List.not_mem_nil, or_false]
    rintro (q | q)
    · exact absurd (Nat.lt_of_lt_of_le h1 hz) (q ▸ Nat.lt_irrefl _)
    · exact absurd (Nat.lt_of_lt_of_le h2 hz) (q ▸ Nat.lt_irrefl _)
  refine ⟨fun Q hQ => hQ t l1 l2 vi vs vc ta tb tc h' tk (keep_all N KB F' N' fun p hp => ?_) (N' _ (.head _)).1 (N' _ (.tail _ (.tail _ (.head _)))).1 (N' _ (.tail _ (.head _))).1
    (fresh_in N KB N' (.head _) (off _ (Nat.le_of_lt (Nat.lt_trans h3 h4)))) (fresh_in N KB N' (.tail _ (.tail _ (.head _))) (off _ (Nat.le_refl _))) (fresh_in N KB N' (.tail _ (.head _)) (off _ (Nat.le_of_lt h3))) h3 h4 hi hs hc⟩
  rcases List.mem_cons.mp hp with rfl | hp
  · exact .tail _ (.tail _ (.tail _ m1))
  · rw [List.mem_singleton.mp hp]; exact .tail _ (.tail _ (.tail _ m2))

local macro_rules | `(tactic| walk_at "exec For Name Name cons nil") => `(tactic| (
  k_here; (rename JoinSay _ _ _ _ => jS'); (rename IntsAre _ _ => iA'); (rename List.length _ ≤ 3 => iL')
  k_dflt (refine' forMark jS' (by k_asm) (by k_asm) ?w ?_; (case w => (clear jS'; rcases ints_cases iA' iL' with ⟨e1, e2⟩ | ⟨i1, t1, e1, e2⟩ | ⟨i1, t1, i2, t2, e1, e2⟩ | ⟨i1, t1, i2, t2, i3, t3, e1, e2⟩) <;> (subst e1; subst e2; clear iA' iL'; k_steps; refine' StEnd.of ?a ?b ?c ?d ?e; (case a => assumption); (case b => assumption); (case c => exact rfl); (case d => exact rfl); (case e => intro y h1 h2; simp [h1, h2]))))
  intro h' tk' v' u' F' N' hv'; (try k_sweep)))
local macro_rules | `(tactic| walk_at "exec If") => `(tactic| (
  k_here; (rename JoinSay _ _ _ _ => jS')
  k_dflt (refine' ifMark jS' (by k_asm) (by k_asm) ?w ?_; (case w => (clear jS'; k_steps; all_goals exact StEnd.of (by assumption) (by assumption) rfl (by first | exact deep_none (by omega) | exact deep_int (by assumption) (by omega) | exact deep_true1 (by assumption) (by omega) | exact deep_true2 (by omega) (by omega)) (by intro y h1 h2; simp [h1]))))
  intro h' tk' v' u' F' N' hv'; (try k_sweep)))
local macro_rules | `(tactic| walk_at "eval BoolOp") => `(tactic| (
  k_here; (rename JoinSay _ _ _ _ => jS')
  k_dflt (refine' boolMark jS' ?w ?_; (case w => (clear jS'; k_steps; all_goals first | exact ValEnd.of (plain_a (by assumption)) | exact ValEnd.of (plain_b (by assumption)) | exact ValEnd.of (plain_c (by assumption))))) 
  intro tk'))
local macro_rules | `(tactic| walk_at "call builtin:len") => `(tactic| (
  k_here; (with_reducible show wpAny _ _ (call (Value.builtin "len") [Value.ref _]) _ _ _)
  k_dflt (refine' len_use (by k_asm) (by k_mem) (by assumption) (by assumption) ?_)))

local macro_rules | `(tactic| walk_at "eval Dict") => `(tactic| (
  k_here
  k_dflt (refine' kdn_eval (knd := optKind _ _) (by k_asm) (by k_asm) (by exact Top.nolimit (by k_asm)) (by rfl) (by rfl) (by exact List.cons_ne_nil _ _) (by exact Nat.le_of_ble_eq_true rfl) ?_)
  intro d' h' o' F' N' l1 lo' hd'; (try k_lt l1)))
local macro_rules | `(tactic| walk_at "KdnMade") => `(tactic| (
  k_here
  k_dflt (refine' opt_made (by k_asm) (by k_asm) (by k_updF) (by k_asm) ?_)
  intro h' o' F' N' hd' hf'; (try dsimp only at N'); (try k_sweep)))
local macro_rules | `(tactic| walk_at "getMethod ref") => `(tactic| (
  k_here
  k_dflt (refine' getMethod_tab_any (knd := optKind _ _) (enc := encO) (by exact rfl) (by exact TabAt.ofNews (by k_asm) (by k_mem) (by k_asm) (by k_asm) (by k_asm)) ?_; k_whole)))
local macro_rules | `(tactic| walk_at "call builtin:dict.get") => `(tactic| (
  k_here
  k_dflt (refine' get_use (by exact TabAt.ofNews (by k_asm) (by k_mem) (by k_asm) (by k_asm) (by k_asm)) (by assumption) ?_)
  intro v' hv'))
local macro_rules | `(tactic| walk_at "compareOp Is") => `(tactic| (
  k_here; (with_reducible show wpAny _ _ (compareOp CmpOp.Is _ Value.none) _ _ _); refine is_none_use (by assumption) ?_))
set_option maxHeartbeats 8000000 in
theorem due_spec {w : World} {mg mb : Str → Option Value} {mean : ExcName → Option Value} {dp un : Nat} {gd : Option (List Code)} {cn : Str} {cs : Scope} {a : Addr} {ccd : Value} {cl : List (Str × Addr)} {outer : List Env} {A₀ : Around} {base h₀ : Heap} {L : Addr} {m : Str → Option Value} {s : Shared}
    {t ao : Addr} {ys : List Value} {ms : List Int} {xb xl xd : Int} {vw vd vt vy va vh : Value} {bn bq : Bool} {tb tl td : Tok}
    (B : Below A₀ base outer h₀) (F : Fr h₀ L s.heap m) (X : (hdA.heap_39 w.params).In h₀)
    (T : Top hdA.view_39 (looseW hdA.view_39 [Str.ofString "ParseState"]) mean mg mb h₀) (hk : cs.kind = .function)
    (hd : dp + 60 < recursionLimit) (hu : un + 250 < cLine)
    (hi : IntsAre ys ms) (hl : ms.length ≤ 3) (hxd : -5 ≤ xd ∧ xd ≤ 5) (hxb : 0 ≤ xb ∧ xb < 3) (ht : vt = .none ∨ ∃ i t, vt = .int i t)
    (hh : Handed [vw, vd, vy, va, vh])
    (N : News h₀ L s.heap [(t, tupO (itemVals ao xb xl vw vd vt xd vy bn va bq vh tb tl td)), (ao, tupO ys)]) :
    codeAny (model Challenge.rw_ok0038_01.row.prog w) (ktrTop dp un gd cn cs L a ccd cl outer) (.call (.ref 98) ⟨[.ref t], []⟩) (DEnd ao ms xb xl xd vw vt vy va bn bq s) s := by
  revert X; k_fill; intro X
  k_dflt (refine' enterG ?k1 ?k2 ?k3 ?k4 ?k5 ?kA ?kF ?kK ?k6 ?k7 ?k8 ?k9 ?kB ?_ ?c2 ?c3 ?c4 ?c5; (case kA => exact rfl); (case kF => exact rfl); (case kK => assumption); (case k1 => k_asm); (case k2 => k_asm); (case k3 => k_asm); (case k4 => k_asm); (case k5 => k_asm); (case k6 => k_is); (case k7 => k_is); (case k8 => dsimp only [ktrTop]; omega); (case k9 => exact BindsTo.of_eq rfl); (case c5 => decide); (case kB => exact locs rfl); (case c2 => exact rfl); (case c3 => exact rfl); (case c4 => exact rfl); k_whole; intro g' L' h' KB' hsz' FG' F' N' B' X' T'; (try dsimp only); (try k_fold))
  have jS : JoinSay ms xd bn vt := ⟨⟩
  k_steps
  exact dEnd_of N KB' (by assumption) (by assumption) (by k_mem) (by k_mem) (by assumption) (by assumption) (by assumption) (by omega) (by omega) (by omega) (by omega)

theorem due_use {w : World} {mg mb : Str → Option Value} {mean : ExcName → Option Value} {dp un : Nat} {gd : Option (List Code)} {cn : Str} {cs : Scope} {a : Addr} {ccd : Value} {cl : List (Str × Addr)} {outer : List Env} {A₀ : Around} {base h₀ : Heap} {L : Addr} {m : Str → Option Value} {s : Shared}
    {t ao : Addr} {ys : List Value} {ms : List Int} {xb xl xd : Int} {vw vd vt vy va vh : Value} {bn bq : Bool} {tb tl td : Tok} {news : List (Addr × Obj)} {Q E : Value → Shared → Prop}
    (B : Below A₀ base outer h₀) (F : Fr h₀ L s.heap m) (X : (hdA.heap_39 w.params).In h₀)
    (T : Top hdA.view_39 (looseW hdA.view_39 [Str.ofString "ParseState"]) mean mg mb h₀) (hk : cs.kind = .function)
    (N : News h₀ L s.heap news) (hm : (t, tupO (itemVals ao xb xl vw vd vt xd vy bn va bq vh tb tl td)) ∈ news) (hm2 : (ao, tupO ys) ∈ news)
    (hi : IntsAre ys ms) (hl : ms.length ≤ 3) (hxd : -5 ≤ xd ∧ xd ≤ 5) (hxb : 0 ≤ xb ∧ xb < 3) (ht : vt = .none ∨ ∃ i t, vt = .int i t) (hh : Handed [vw, vd, vy, va, vh])
    (hd : dp + 60 < recursionLimit) (hu : un + 250 < cLine)
    (ret : ∀ t l1 l2 vi vs vc ta tb tc h' tk', Fr h₀ L h' m → News h₀ L h' ((t, tupO [.ref l1, .ref l2]) :: (l2, lstO [.int ((ms.length : Int) - xb) tc, vi, vw, vs, vc, .bool bq, .int xl tb, vy, va, .ref ao]) :: (l1, lstO [.int ((ms.length : Int) - xb) ta, vi, .bool (plainB vt xd)]) :: news) →
      (∀ p ∈ news, p.1 ≠ l1 ∧ p.1 ≠ l2 ∧ p.1 ≠ t) → @LT.lt Nat _ l1 l2 → @LT.lt Nat _ l2 t →
      pyOf vi = some (innerD ms) → pyOf vs = some (toldS vt) → pyOf vc = some (deepD xd bn) → Q (.ref t) { s with heap := h', toks := tk' }) :
    wpAny (model Challenge.rw_ok0038_01.row.prog w) (ktrTop dp un gd cn cs L a ccd cl outer) (call (.ref 98) [.ref t]) Q E s := by
  have N2 : News h₀ L s.heap [(t, tupO (itemVals ao xb xl vw vd vt xd vy bn va bq vh tb tl td)), (ao, tupO ys)] := fun p hp => by
    rcases List.mem_cons.mp hp with rfl | hp
    · exact N _ hm
    · rw [List.mem_singleton.mp hp]; exact N _ hm2
  refine wpAny_call (codeAny_mono (due_spec B F X T hk hd hu hi hl hxd hxb ht hh N2) fun r s' h => ?_)
  have := h.go Q (fun t l1 l2 vi vs vc ta tb tc h' tk' KB e1 e2 e3 n1 n2 n3 l l' p1 p2 p3 => ret t l1 l2 vi vs vc ta tb tc h' tk' (KB.fr0 F) (news_cons F (news_cons F (news_cons F (KB.news0 N) n2 e2) n3 e3) n1 e1)
    (fun p hp => ⟨news_off N n2 p hp, news_off N n3 p hp, news_off N n1 p hp⟩) l l' p1 p2 p3)
  revert this
  cases r with
  | ok f => cases f <;> exact id
  | error e => exact False.elim
end Mine
end

/-! ## part Show1 -/
section
open PySem PySem.W PySem.Calls PyProof.Rows PyProof.V PySem.Spec
set_option maxRecDepth 100000
namespace Mine

/-! ## data small enough to be shown -/
structure Tiny (d : PyData) : Prop where
  show' : d.showable = true
  nodict : d.hasDict = false
  leaf : d.leavesShort 13 = true
  deep : d.depth ≤ 1
  wt : d.weight ≤ 40
structure ReprOk (d : PyData) : Prop where
  show' : d.showable = true
  nodict : d.hasDict = false
  len : d.shown.length ≤ sizeLine
  deep : d.depth ≤ 2

theorem all_tiny : ∀ {ds : List PyData}, (∀ d ∈ ds, Tiny d) → PyData.showableAll ds = true ∧ PyData.hasDictAll ds = false ∧ PyData.leavesShortAll 13 ds = true ∧ PyData.depthAll ds ≤ 1 ∧ PyData.weightAll ds ≤ 41 * ds.length
  | [], _ => ⟨rfl, rfl, rfl, by simp [PyData.depthAll], by simp [PyData.weightAll]⟩
  | d :: ds, h => by
    obtain ⟨a, b, c, e, f⟩ := all_tiny (ds := ds) fun x hx => h x (.tail _ hx)
    have t := h d (.head _)
    refine ⟨by simp only [PyData.showableAll, t.show', a, Bool.and_self], by simp only [PyData.hasDictAll, t.nodict, b, Bool.or_self], by simp only [PyData.leavesShortAll, t.leaf, c, Bool.and_self], ?_, ?_⟩
    · have := t.deep
      simp only [PyData.depthAll]; omega
    · have := t.wt
      simp only [PyData.weightAll, List.length_cons]; omega
theorem ok_list {ds : List PyData} (h : ∀ d ∈ ds, Tiny d) (hl : ds.length ≤ 20) : ReprOk (.list ds) := by
  obtain ⟨a, b, c, e, f⟩ := all_tiny h
  refine ⟨by simpa only [PyData.showable] using a, by simpa only [PyData.hasDict] using b, ?_, by simp only [PyData.depth]; omega⟩
  exact PyData.shown_fits (B := 13) (by decide) (by decide) (by simpa only [PyData.leavesShort] using c) (by simp only [PyData.weight]; omega)
theorem ok_tuple {ds : List PyData} (h : ∀ d ∈ ds, Tiny d) (hl : ds.length ≤ 20) : ReprOk (.tuple ds) := by
  obtain ⟨a, b, c, e, f⟩ := all_tiny h
  refine ⟨by simpa only [PyData.showable] using a, by simpa only [PyData.hasDict] using b, ?_, by simp only [PyData.depth]; omega⟩
  exact PyData.shown_fits (B := 13) (by decide) (by decide) (by simpa only [PyData.leavesShort] using c) (by simp only [PyData.weight]; omega)
theorem Tiny.ok {d : PyData} (h : Tiny d) : ReprOk d := ⟨h.show', h.nodict, PyData.shown_fits (B := 13) (by decide) (by decide) h.leaf (by have := h.wt; omega), by have := h.deep; omega⟩

theorem Tiny.none : Tiny .none := ⟨rfl, rfl, rfl, by decide, by decide⟩
theorem Tiny.bool (b : Bool) : Tiny (.bool b) := ⟨rfl, rfl, rfl, by simp [PyData.depth], by simp [PyData.weight]⟩
theorem log2_le {n : Nat} (h : n ≤ 1000) : n.log2 ≤ 9 := by
  have := Nat.log2_lt (n := n) (k := 10)
  by_cases hn : n = 0
  · subst hn; decide
  · have := (Nat.log2_lt hn).mpr (show n < 2 ^ 10 by omega); omega
theorem Tiny.int {i : Int} (h : -1000 ≤ i ∧ i ≤ 1000) : Tiny (.int i) := by
  have hl := log2_le (n := i.natAbs) (by omega)
  refine ⟨?_, rfl, ?_, by simp [PyData.depth], ?_⟩
  · simp only [PyData.showable, decide_eq_true_eq]; omega
  · simp only [PyData.leavesShort, decide_eq_true_eq]
    exact PyData.shown_int_le (by have : (10 : Nat) ^ 12 = 1000000000000 := by decide
                                  omega)
  · simp only [PyData.weight]; split <;> omega
theorem tiny_strs {d : PyData} (h : d ∈ ([.str "", .str "b", .str "c", .str "bc", .str "begin", .str "nest", .str "end"] : List PyData)) : Tiny d := by
  simp only [List.mem_cons, List.not_mem_nil, or_false] at h
  rcases h with rfl | rfl | rfl | rfl | rfl | rfl | rfl <;> exact ⟨by decide +kernel, by decide +kernel, by decide +kernel, by decide +kernel, by decide +kernel⟩
theorem Tiny.tup {ms : List Int} (hl : ms.length ≤ 3) (hb : ∀ x ∈ ms, 0 ≤ x ∧ x ≤ 20) : Tiny (.tuple (ms.map .int)) := by
  have key : ∀ ms : List Int, (∀ x ∈ ms, 0 ≤ x ∧ x ≤ 20) → PyData.showableAll (ms.map .int) = true ∧ PyData.hasDictAll (ms.map .int) = false ∧ PyData.leavesShortAll 13 (ms.map .int) = true ∧ PyData.depthAll (ms.map .int) = 0 ∧ PyData.weightAll (ms.map .int) ≤ 11 * ms.length := by
    intro ms
    induction ms with
    | nil => intro _; exact ⟨rfl, rfl, rfl, rfl, by simp [PyData.weightAll]⟩
    | cons i r ih =>
      intro h
      obtain ⟨a, b, c, e, f⟩ := ih fun x hx => h x (.tail _ hx)
      have hi := h i (.head _)
      have t := Tiny.int (i := i) (by omega)
      have hw : PyData.weight (.int i) ≤ 10 := by
        have := log2_le (n := i.natAbs) (by omega)
        simp only [PyData.weight]; split <;> omega
      refine ⟨by simp only [List.map_cons, PyData.showableAll, t.show', a, Bool.and_self], by simp only [List.map_cons, PyData.hasDictAll, t.nodict, b, Bool.or_self], by simp only [List.map_cons, PyData.leavesShortAll, t.leaf, c, Bool.and_self], by simp only [List.map_cons, PyData.depthAll, e, PyData.depth]; rfl, ?_⟩
      simp only [List.map_cons, PyData.weightAll, List.length_cons]; omega
  obtain ⟨a, b, c, e, f⟩ := key ms hb
  refine ⟨by simpa only [PyData.showable] using a, by simpa only [PyData.hasDict] using b, by simpa only [PyData.leavesShort] using c, by simp only [PyData.depth, e]; omega, by simp only [PyData.weight]; omega⟩
theorem tiny_inner {ms : List Int} (hb : ∀ x ∈ ms, 0 ≤ x ∧ x ≤ 20) : Tiny (innerD ms) := by
  unfold innerD
  cases e : ms.getLast? with
  | none => exact .none
  | some x => exact .int (by have := hb x (List.mem_of_getLast? e); omega)
theorem tiny_deep {xd : Int} {bn : Bool} (h : -5 ≤ xd ∧ xd ≤ 5) : Tiny (deepD xd bn) := by
  unfold deepD
  split
  · exact .none
  · split
    · exact .bool _
    · exact .int (by omega)

/-! ## reading over the ledger -/
def RdN (news : List (Addr × Obj)) (v : Value) (d : PyData) : Prop := ∀ (h₀ h : Heap) (L : Addr), News h₀ L h news → ∃ as, Reads h v d as
inductive RdAll (news : List (Addr × Obj)) : List Value → List PyData → Prop
  | nil : RdAll news [] []
  | cons {v : Value} {d : PyData} {vs : List Value} {ds : List PyData} : RdN news v d → Tiny d → RdAll news vs ds → RdAll news (v :: vs) (d :: ds)
theorem RdN.mono {news news' : List (Addr × Obj)} {v : Value} {d : PyData} (h : RdN news v d) (sub : ∀ p ∈ news, p ∈ news') : RdN news' v d := fun h₀ h' L N => h h₀ h' L fun p hp => N p (sub p hp)
theorem RdAll.mono {news news' : List (Addr × Obj)} (sub : ∀ p ∈ news, p ∈ news') : ∀ {vs : List Value} {ds : List PyData}, RdAll news vs ds → RdAll news' vs ds
  | _, _, .nil => .nil
  | _, _, .cons h t r => .cons (h.mono sub) t (r.mono sub)
theorem RdAll.reads {news : List (Addr × Obj)} {h₀ h : Heap} {L : Addr} (N : News h₀ L h news) : ∀ {vs : List Value} {ds : List PyData}, RdAll news vs ds → ∃ as, ReadsAll h vs ds as
  | _, _, .nil => ⟨_, .nil⟩
  | _, _, .cons h _ r => let ⟨_, a⟩ := h _ _ _ N; let ⟨_, b⟩ := r.reads N; ⟨_, .cons a b⟩
theorem RdAll.tiny {news : List (Addr × Obj)} : ∀ {vs : List Value} {ds : List PyData}, RdAll news vs ds → ∀ d ∈ ds, Tiny d
  | _, _, .nil, _, h => nomatch h
  | _, _, .cons _ t r, d, h => by
    rcases List.mem_cons.mp h with rfl | h
    · exact t
    · exact r.tiny d h
theorem RdAll.length {news : List (Addr × Obj)} : ∀ {vs : List Value} {ds : List PyData}, RdAll news vs ds → vs.length = ds.length
  | _, _, .nil => rfl
  | _, _, .cons _ _ r => congrArg (· + 1) r.length
theorem RdN.at' {news : List (Addr × Obj)} {v : Value} {d : PyData} (h : pyOf v = some d) : RdN news v d := fun _ h' _ _ => ⟨_, flat_of h h'⟩
theorem RdN.tupInts {news : List (Addr × Obj)} {t : Addr} {ys : List Value} {ms : List Int} (hm : (t, tupO ys) ∈ news) (hi : IntsAre ys ms) : RdN news (.ref t) (.tuple (ms.map .int)) := fun h₀ h L N => by
  have key : ∀ {ys : List Value} {ms : List Int}, IntsAre ys ms → ∃ as, ReadsAll h ys (ms.map .int) as := by
    intro ys ms hi
    induction hi with
    | nil => exact ⟨_, .nil⟩
    | cons n t _ ih => obtain ⟨as, a⟩ := ih; exact ⟨_, .cons (.int n t) a⟩
  obtain ⟨as, a⟩ := key hi
  exact ⟨_, .tuple (N _ hm).1 rfl rfl (by simpa using a)⟩
theorem RdN.tuple {news : List (Addr × Obj)} {t : Addr} {vs : List Value} {ds : List PyData} (hm : (t, tupO vs) ∈ news) (r : RdAll news vs ds) : RdN news (.ref t) (.tuple ds) := fun h₀ h L N => by
  obtain ⟨as, a⟩ := r.reads N
  exact ⟨_, .tuple (N _ hm).1 rfl rfl (by simpa using a)⟩
theorem RdN.list {news : List (Addr × Obj)} {t : Addr} {vs : List Value} {n : Nat} {ds : List PyData} (hm : (t, W.listOf vs.toArray n) ∈ news) (r : RdAll news vs ds) : RdN news (.ref t) (.list ds) := fun h₀ h L N => by
  obtain ⟨as, a⟩ := r.reads N
  exact ⟨_, .list (N _ hm).1 rfl rfl (by simpa using a)⟩

section
variable {prog : Program} {w : World} {A : Around} {E : Value → Shared → Prop} {s : Shared} {h₀ : Heap} {L : Addr} {m : Str → Option Value} {news : List (Addr × Obj)} {v : Value} {d : PyData} {Q : Value → Shared → Prop}
theorem repr_use (F : Fr h₀ L s.heap m) (N : News h₀ L s.heap news) (r : RdN news v d) (ok : ReprOk d) (hg : A.guards = some []) (hu : A.units + 10 < cLine)
    (hQ : ∀ h' u tk, Fr h₀ L h' m → News h₀ L h' news → Q (.str d.shown u) { s with heap := h', toks := tk }) : wpAny (model prog w) A (call (.builtin "repr") [v]) Q E s := by
  obtain ⟨as, r1⟩ := r _ _ _ N
  have hd := ok.deep
  cases v with
  | ref a => exact repr_of_reads' r1 ok.show' (PyData.noDict_hsm ok.nodict) hg (by omega) (fun _ _ e => e) (fun h' u tk hk => hQ h' u tk (F.keptAll hk) (N.grown hk)) ok.len
  | none => cases r1; exact P.repr_of_none (by have := hQ s.heap s.toks (s.toks + 1) F N; simpa only [PyData.shown] using this)
  | bool b => cases r1; exact P.repr_of_bool (by have := hQ s.heap s.toks (s.toks + 1) F N; simpa only [PyData.shown] using this)
  | int i t => cases r1; exact P.repr_of_int (by have := ok.show'; simpa [PyData.showable] using this) (by have := hQ s.heap s.toks (s.toks + 1) F N; simpa only [PyData.shown] using this)
  | str x t => cases r1; exact P.repr_of_str (by have := hQ s.heap s.toks (s.toks + 1) F N; simpa only [PyData.shown] using this) (by have := ok.len; simpa only [PyData.shown] using this)
  | _ => cases r1
end
end Mine
end

/-! ## part Use1 -/
section
open PySem PySem.W PySem.Calls PyProof.Rows PyProof.V PySem.Spec
set_option maxRecDepth 100000
namespace Mine
structure PT (v : Value) (d : PyData) : Prop where
  at' : pyOf v = some d
  tiny : Tiny d
theorem pyOf_handed {v : Value} {d : PyData} (h : pyOf v = some d) : handedIn v = true := by
  cases v <;> simp_all [pyOf, handedIn]
theorem AtomIn.pt {ds : List PyData} {v : Value} (h : AtomIn ds v) (ht : ∀ d ∈ ds, Tiny d) : ∃ d, PT v d := by
  obtain ⟨d, hd, e⟩ := h
  exact ⟨d, e, ht d hd⟩
theorem tiny_two {i : Int} (h : -1000 ≤ i ∧ i ≤ 1000) : ∀ d ∈ ([.none, .int i] : List PyData), Tiny d := by
  intro d hd
  simp only [List.mem_cons, List.not_mem_nil, or_false] at hd
  rcases hd with rfl | rfl
  · exact .none
  · exact .int h

/-- what the law knows of the twelve -/
structure ItemsKnow (ao : Addr) (ys : List Value) (ms : List Int) (xb xl : Int) (vw vd vt : Value) (xd : Int) (vy : Value) (bn : Bool) (va : Value) (bq : Bool) (vh : Value) (tb tl td : Tok) (dw dd dt dy da dh : PyData) : Prop where
  isInts : IntsAre ys ms
  len : ms.length ≤ 3
  small : ∀ x ∈ ms, 0 ≤ x ∧ x ≤ 20
  below : 0 ≤ xb ∧ xb < 3
  least : -4 < xl ∧ xl ≤ 0
  deep : -5 ≤ xd ∧ xd ≤ 5
  str : vt = .none ∨ ∃ i t, vt = .int i t
  pw : PT vw dw
  pd : PT vd dd
  pt : PT vt dt
  py : PT vy dy
  pa : PT va da
  ph : PT vh dh
  told : Tiny (toldS vt)
  five : Handed [vw, vd, vy, va, vh]
  all : Handed [.ref ao, .int xb tb, .int xl tl, vw, vd, vt, .int xd td, vy, .bool bn, va, .bool bq, vh]

theorem itemsKnow_of {ao : Addr} {ys : List Value} {ms : List Int} {xb xl : Int} {vw vd vt : Value} {xd : Int} {vy va vh : Value} (f : ItemsFacts ys ms xb xl vw vd vt xd vy va vh) (bn bq : Bool) (tb tl td : Tok) :
    ∃ dw dd dt dy da dh, ItemsKnow ao ys ms xb xl vw vd vt xd vy bn va bq vh tb tl td dw dd dt dy da dh := by
  obtain ⟨dw, pw⟩ := f.whole.pt (tiny_two (by decide))
  obtain ⟨dd, pd⟩ := f.word.pt (tiny_two (by decide))
  obtain ⟨dt, hdt, e⟩ := f.string
  have tdt : Tiny dt := by
    simp only [List.mem_cons, List.not_mem_nil, or_false] at hdt
    rcases hdt with rfl | rfl | rfl | rfl
    · exact .none
    · exact .int (by decide)
    · exact .int (by decide)
    · exact .int (by decide)
  have hs : vt = .none ∨ ∃ i t, vt = .int i t := by
    simp only [List.mem_cons, List.not_mem_nil, or_false] at hdt
    rcases hdt with rfl | rfl | rfl | rfl <;> cases vt <;> simp_all [pyOf]
  have told : Tiny (toldS vt) := by
    simp only [List.mem_cons, List.not_mem_nil, or_false] at hdt
    rcases hs with rfl | ⟨i, t, rfl⟩
    · exact .none
    · simp only [pyOf, Option.some.injEq] at e
      subst e
      show Tiny (if i = 0 then PyData.bool true else PyData.int i)
      split
      · exact .bool _
      · exact tdt
  obtain ⟨dy, py⟩ := f.style.pt (fun d hd => tiny_strs (by simp only [List.mem_cons, List.not_mem_nil, or_false] at hd ⊢; rcases hd with rfl | rfl | rfl | rfl <;> simp))
  obtain ⟨da, pa⟩ := f.start.pt (tiny_two (by decide))
  obtain ⟨dh, ph⟩ := f.half.pt (fun d hd => tiny_strs (by simp only [List.mem_cons, List.not_mem_nil, or_false] at hd ⊢; rcases hd with rfl | rfl | rfl | rfl <;> simp))
  refine ⟨dw, dd, dt, dy, da, dh, f.isInts, f.len, f.small, f.below, f.least, f.deep, hs, pw, pd, ⟨e, tdt⟩, py, pa, ph, told, ?_, ?_⟩
  · intro v hv
    simp only [List.mem_cons, List.not_mem_nil, or_false] at hv
    rcases hv with rfl | rfl | rfl | rfl | rfl
    · exact pyOf_handed pw.at'
    · exact pyOf_handed pd.at'
    · exact pyOf_handed py.at'
    · exact pyOf_handed pa.at'
    · exact pyOf_handed ph.at'
  · intro v hv
    simp only [List.mem_cons, List.not_mem_nil, or_false] at hv
    rcases hv with rfl | rfl | rfl | rfl | rfl | rfl | rfl | rfl | rfl | rfl | rfl | rfl
    · rfl
    · rfl
    · rfl
    · exact pyOf_handed pw.at'
    · exact pyOf_handed pd.at'
    · exact pyOf_handed e
    · rfl
    · exact pyOf_handed py.at'
    · rfl
    · exact pyOf_handed pa.at'
    · rfl
    · exact pyOf_handed ph.at'

theorem items_use {w : World} {mg mb : Str → Option Value} {mean : ExcName → Option Value} {dp un : Nat} {gd : Option (List Code)} {cn : Str} {cs : Scope} {a : Addr} {ccd : Value} {cl : List (Str × Addr)} {outer : List Env} {A₀ : Around} {base h₀ : Heap} {L : Addr} {m : Str → Option Value} {s : Shared}
    {deck c : Addr} {p : Int} {tp : Tok} {vs : List Value} {ns : List Int} {news : List (Addr × Obj)} {g : Obj → List (Addr × Obj)} {Q E : Value → Shared → Prop}
    (B : Below A₀ base outer h₀) (F : Fr h₀ L s.heap m) (X : (hdA.heap_39 w.params).In h₀)
    (T : Top hdA.view_39 (looseW hdA.view_39 [Str.ofString "ParseState"]) mean mg mb h₀) (hk : cs.kind = .function)
    (N : News h₀ L s.heap news) (U : UpdF deck (deckO c p tp) news g) (hc : (c, LCg.lst vs) ∈ news) (hi : IntsAre vs ns)
    (hd : dp + 40 < recursionLimit) (hu : un + 200 < cLine) (hl : ns.length ≤ 63) (hp0 : 0 ≤ p) (hp1 : p ≤ 900) (hdc : @LT.lt Nat _ c deck)
    (ret : ∀ t ao ys ms xb xl vw vd vt xd vy bn va bq vh tb tl td dw dd dt dy da dh q tq h' tk', Fr h₀ L h' m →
      News h₀ L h' ((t, tupO [.ref ao, .int xb tb, .int xl tl, vw, vd, vt, .int xd td, vy, .bool bn, va, .bool bq, vh]) :: (ao, tupO ys) :: g (deckO c q tq)) → (∀ p ∈ news, p.1 < ao) → @LT.lt Nat _ ao t → p ≤ q → q ≤ p + 20 →
      ItemsKnow ao ys ms xb xl vw vd vt xd vy bn va bq vh tb tl td dw dd dt dy da dh → Q (.ref t) { s with heap := h', toks := tk' }) :
    wpAny (model Challenge.rw_ok0038_01.row.prog w) (ktrTop dp un gd cn cs L a ccd cl outer) (call (.ref 91) [.ref deck]) Q E s := by
  obtain ⟨own, rest, rfl, hg, h1, h2⟩ := U.split
  have hmem := N (deck, deckO c p tp) (List.mem_append_right _ (.head _))
  have N2 : News h₀ L s.heap [(deck, deckO c p tp), (c, LCg.lst vs)] := fun q hq => by
    rcases List.mem_cons.mp hq with rfl | hq
    · exact hmem
    · obtain rfl := List.mem_singleton.mp hq
      exact N _ hc
  refine wpAny_call (codeAny_mono (items_spec B F X T hk hd hu N2 hi hl hp0 hp1 hdc) fun r s' h => ?_)
  have := h.go Q (fun t ao ys ms xb xl vw vd vt xd vy bn va bq vh tb tl td q tq h' tk' fx hq0 hq1 KB hdk hao ht hsz hat => by
    obtain ⟨dw, dd, dt, dy, da, dh, kn⟩ := itemsKnow_of (ao := ao) fx bn bq tb tl td
    have fresh : ∀ b, s.heap.objs.size ≤ b → s.heap.get? b = none := fun b hb => by
      cases e : s.heap.get? b with
      | none => rfl
      | some o => exact absurd (Heap.lt_size e) (Nat.not_lt.mpr hb)
    refine ret t ao ys ms xb xl vw vd vt xd vy bn va bq vh tb tl td dw dd dt dy da dh q tq h' tk' (KB.frN F N2 fun b hb => by rw [List.mem_singleton.mp hb]; exact .head _) ?_ (fun p hp => Nat.lt_of_lt_of_le (Heap.lt_size (N p hp).1) hsz) hat hq0 hq1 kn
    have N3 : News h₀ L h' (g (deckO c q tq)) := hg _ ▸ fun q hq => by
      rcases List.mem_append.mp hq with hq | hq
      · have P := N q (List.mem_append_left _ hq)
        exact ⟨KB _ _ (fun z => h1 q hq (List.mem_singleton.mp z)) P.1, P.2⟩
      · rcases List.mem_cons.mp hq with rfl | hq
        · exact ⟨hdk, hmem.2⟩
        · have P := N q (List.mem_append_right _ (.tail _ hq))
          exact ⟨KB _ _ (fun z => h2 q hq (List.mem_singleton.mp z)) P.1, P.2⟩
    exact news_cons F (news_cons F N3 (fresh ao hsz) hao) (fresh t (Nat.le_trans hsz (Nat.le_of_lt hat))) ht)
  revert this
  cases r with
  | ok f => cases f <;> exact id
  | error e => exact False.elim
end Mine
end

/-! ## part Loop1 -/
section
open PySem PySem.W PySem.Calls PyProof.Rows PyProof.V PySem.Spec
set_option maxRecDepth 100000
namespace Mine
/-- a lap's end: the range's own object and the deck stand, the deck some draws on -/
structure LapJ (deck c : Addr) (vs : List Value) (i : Nat) (m : Str → Option Value) (nx : List (Addr × Obj)) : Prop where
  it : ∃ p tp, nx = [(deck, deckO c p tp), (c, LCg.lst vs)] ∧ 0 ≤ p ∧ p ≤ 4 + 50 * (i : Int) ∧ m (Str.ofString "deck") = some (.ref deck)
structure LapEnd (h₀ : Heap) (L : Addr) (deck c : Addr) (vs : List Value) (i : Nat) (I : Addr) (oI : Obj) (s₁ s₂ : Shared) : Prop where
  it : ∃ h' tk m' p tp, s₂ = { s₁ with heap := h', toks := tk } ∧ Fr h₀ L h' m' ∧ News h₀ L h' [(I, oI), (deck, deckO c p tp), (c, LCg.lst vs)] ∧ 0 ≤ p ∧ p ≤ 4 + 50 * ((i + 1 : Nat) : Int) ∧ m' (Str.ofString "deck") = some (.ref deck)
theorem lapEnd_of {h₀ : Heap} {L : Addr} {deck c I : Addr} {vs : List Value} {i : Nat} {oI : Obj} {s₁ : Shared} {h' : Heap} {tk : Nat} {m' : Str → Option Value} {p : Int} {tp : Tok} {all : List (Addr × Obj)}
    (F : Fr h₀ L h' m') (N : News h₀ L h' all) (mI : (I, oI) ∈ all) (md : (deck, deckO c p tp) ∈ all) (mc : (c, LCg.lst vs) ∈ all) (hd : m' (Str.ofString "deck") = some (.ref deck)) (h0 : 0 ≤ p) (h1 : p ≤ 4 + 50 * (i : Int) + 50) :
    LapEnd h₀ L deck c vs i I oI s₁ { s₁ with heap := h', toks := tk } := ⟨h', tk, m', p, tp, rfl, F, fun q hq => by
    rcases List.mem_cons.mp hq with rfl | hq
    · exact N _ mI
    · rcases List.mem_cons.mp hq with rfl | hq
      · exact N _ md
      · rw [List.mem_singleton.mp hq]; exact N _ mc, h0, by omega, hd⟩
inductive LapPost (h₀ : Heap) (L : Addr) (deck c : Addr) (vs : List Value) (i : Nat) (I : Addr) (oI : Obj) (s₁ : Shared) (Q : Flow → Shared → Prop) : Flow → Shared → Prop
  | next {s₂ : Shared} : LapEnd h₀ L deck c vs i I oI s₁ s₂ → LapPost h₀ L deck c vs i I oI s₁ Q .next s₂

section
variable {prog : Program} {w : World} {A : Around} {E : Value → Shared → Prop} {s : Shared} {env : Env} {h₀ : Heap} {body : List Stmt} {Q : Flow → Shared → Prop}
theorem range_use {deck c r : Addr} {vs : List Value} {b₀ p₀ : Int} {tp₀ t₀ u₀ v₀ : Tok} {m₀ : Str → Option Value} {news : List (Addr × Obj)}
    (hh : A.handled = none) (hr : IsRange s.heap r 0 b₀ 1 t₀ u₀ v₀) (hb0 : 0 ≤ b₀) (hb1 : b₀ ≤ 4) (F : Fr h₀ env.locals s.heap m₀) (N : News h₀ env.locals s.heap news) (md : (deck, deckO c p₀ tp₀) ∈ news) (mc : (c, LCg.lst vs) ∈ news)
    (h0 : 0 ≤ p₀) (h1 : p₀ ≤ 4) (hd : m₀ (Str.ofString "deck") = some (.ref deck))
    (turn : ∀ (i : Nat) k t p tp (u : Str → Option Value) h tk I oI, i < 4 → 0 ≤ p → p ≤ 4 + 50 * (i : Int) → @Ne Nat I deck → @Ne Nat I c →
      Fr h₀ env.locals h (fun y => if y = Str.ofString "lap" then some (.int k t) else if y = Str.ofString "deck" then some (.ref deck) else u y) → News h₀ env.locals h [(I, oI), (deck, deckO c p tp), (c, LCg.lst vs)] →
      wpAny (model prog w) A (execs body env) (LapPost h₀ env.locals deck c vs i I oI { s with heap := h, toks := tk } Q) E { s with heap := h, toks := tk })
    (done : ∀ p tp (u : Str → Option Value) h tk, Fr h₀ env.locals h (fun y => if y = Str.ofString "deck" then some (.ref deck) else u y) → News h₀ env.locals h [(deck, deckO c p tp), (c, LCg.lst vs)] → Q .next { s with heap := h, toks := tk }) :
    wpAny (model prog w) A (pyIter (.ref r)) (fun it s₂ => LoopAtV prog w A h₀ env (Str.ofString "lap") body Q E it s₂) E s := by
  refine wpAny_pyIter_range hr (small_few hb0 (by omega)) ?_
  have hn : Builtin.Range.rangeSize 0 b₀ 1 = ((b₀ - 0).toNat : Int) := rangeSize_nat 0 b₀
  generalize hnn : (b₀ - 0).toNat = n at hn
  have hn4 : n ≤ 4 := by omega
  have W : Walks prog w A s.heap.objs.size [s.heap.objs.size] [s.heap.objs.size] n (fun i v => i < n ∧ ∃ t, v = .int (0 + i * 1) t)
      (fun i h => IsRangeIter h s.heap.objs.size (0 + (i : Nat) * 1) ((n : Int) - (i : Nat)) 1) := (Walks.range hh _ 0 1 n).bound
  have N0 : News h₀ env.locals s.heap [(deck, deckO c p₀ tp₀), (c, LCg.lst vs)] := fun q hq => by
    rcases List.mem_cons.mp hq with rfl | hq
    · exact N _ md
    · rw [List.mem_singleton.mp hq]; exact N _ mc
  have fresh : ∀ q ∈ ([(deck, deckO c p₀ tp₀), (c, LCg.lst vs)] : List (Addr × Obj)), q.1 ∉ [s.heap.objs.size] := fun q hq hI =>
    absurd (Heap.lt_size (N0 q hq).1) ((List.mem_singleton.mp hI) ▸ Nat.lt_irrefl _)
  refine ⟨_, _, _, n, _, _, m₀, [(deck, deckO c p₀ tp₀), (c, LCg.lst vs)], LapJ deck c vs, rfl, W, ?_, ?_, fresh, by show IsRangeIter _ _ _ _ _; rw [hn]; simpa using Heap.get?_push_size _ rfl, F.push _, (fun p hp => ⟨Heap.get?_push_of_some _ (N0 p hp).1, (N0 p hp).2⟩), ⟨p₀, tp₀, rfl, h0, by omega, hd⟩, ?_, ?_⟩
  · intro hm
    exact absurd F.ns.lt ((List.mem_singleton.mp hm) ▸ Nat.lt_irrefl _)
  · intro b hb
    rw [List.mem_singleton.mp hb]
    exact next_is_new F
  · rintro i v m₁ news₁ s₁ own ⟨hh', tk', rfl⟩ hin ⟨_, t, rfl⟩ ⟨p, tp, rfl, hp0, hp1, hdk⟩ hoff hown _ hmem hst' F₁ N₁
    have hI : hh'.get? s.heap.objs.size = some _ := hst'
    obtain ⟨oI, hoI⟩ : ∃ oI, hh'.get? s.heap.objs.size = some oI := ⟨_, hI⟩
    have hIo := hmem s.heap.objs.size (.head _) (next_is_new F) oI hoI
    have ownEq : ∀ q ∈ own, q = (s.heap.objs.size, oI) := fun q hq => by
      have e1 := List.mem_singleton.mp (hown q hq)
      have e2 := (N₁ q (List.mem_append_left _ hq)).1
      rw [e1, hoI] at e2
      exact Prod.ext e1 (Option.some.inj e2).symm
    have N₂ : News h₀ env.locals hh' [(s.heap.objs.size, oI), (deck, deckO c p tp), (c, LCg.lst vs)] := fun q hq => by
      rcases List.mem_cons.mp hq with rfl | hq
      · exact N₁ _ (List.mem_append_left _ hIo)
      · exact N₁ _ (List.mem_append_right _ hq)
    have e : (fun y => if y = Str.ofString "lap" then some (Value.int (0 + (i : Int) * 1) t) else m₁ y) = fun y => if y = Str.ofString "lap" then some (Value.int (0 + (i : Int) * 1) t) else if y = Str.ofString "deck" then some (.ref deck) else m₁ y := by
      funext y
      by_cases h1 : y = Str.ofString "lap"
      · simp [h1]
      · by_cases h2 : y = Str.ofString "deck"
        · subst h2; simp [hdk]
        · simp [h1, h2]
    rw [e] at F₁
    have off1 : @Ne Nat s.heap.objs.size deck := fun q => hoff _ (.head _) (List.mem_singleton.mpr q.symm)
    have off2 : @Ne Nat s.heap.objs.size c := fun q => hoff _ (.tail _ (.head _)) (List.mem_singleton.mpr q.symm)
    refine wpAny_mono (turn i _ t p tp m₁ hh' tk' s.heap.objs.size oI (by omega) hp0 hp1 off1 off2 F₁ N₂) (fun f s₂ hp => ?_) fun _ _ e => e
    cases hp with
    | next hl =>
      obtain ⟨h', tk, m', p', tp', e, F', N', a0, a1, hdk'⟩ := hl.it
      subst e
      refine .next ⟨rfl, h', tk, m', [(deck, deckO c p' tp'), (c, LCg.lst vs)], rfl, F', fun q hq => ?_, fun q hq hI => ?_, ⟨p', tp', rfl, a0, a1, hdk'⟩⟩
      · rcases List.mem_append.mp hq with hq | hq
        · rw [ownEq q hq]; exact N' _ (.head _)
        · exact N' _ (.tail _ hq)
      · have hI' := List.mem_singleton.mp hI
        rcases List.mem_cons.mp hq with rfl | hq
        · exact off1 hI'.symm
        · rw [List.mem_singleton.mp hq] at hI'; exact off2 hI'.symm
  · rintro h' tk m' news' F' N' _ ⟨p, tp, rfl, _, _, hdk⟩
    refine done p tp m' h' tk ?_ N'
    have e : (fun y => if y = Str.ofString "deck" then some (.ref deck) else m' y) = m' := by
      funext y
      by_cases h2 : y = Str.ofString "deck"
      · subst h2; simp [hdk]
      · simp [h2]
    rw [e]; exact F'
end
end Mine
end

/-! ## part Show2 -/
section
open PySem PySem.W PySem.Calls PyProof.Rows PyProof.V PySem.Spec
set_option maxRecDepth 100000
namespace Mine
theorem RdN.int {news : List (Addr × Obj)} {i : Int} {t : Tok} : RdN news (.int i t) (.int i) := RdN.at' rfl
theorem RdN.bool {news : List (Addr × Obj)} {b : Bool} : RdN news (.bool b) (.bool b) := RdN.at' rfl
theorem RdN.none {news : List (Addr × Obj)} : RdN news .none .none := RdN.at' rfl
section
variable {prog : Program} {w : World} {A : Around} {E : Value → Shared → Prop} {s : Shared} {h₀ : Heap} {L : Addr} {m : Str → Option Value} {news : List (Addr × Obj)} {v : Value} {d : PyData} {Q : Value → Shared → Prop}
theorem repr_tup {t : Addr} {vs : List Value} {ds : List PyData} (F : Fr h₀ L s.heap m) (N : News h₀ L s.heap news) (hm : (t, tupO vs) ∈ news) (r : RdAll news vs ds) (hl : vs.length ≤ 20) (hg : A.guards = some []) (hu : A.units + 10 < cLine)
    (hQ : ∀ h' u tk, Fr h₀ L h' m → News h₀ L h' news → Q (.str (PyData.tuple ds).shown u) { s with heap := h', toks := tk }) : wpAny (model prog w) A (call (.builtin "repr") [.ref t]) Q E s :=
  repr_use F N (RdN.tuple hm r) (ok_tuple r.tiny (r.length ▸ hl)) hg hu hQ
theorem repr_lst {t : Addr} {vs : List Value} {n : Nat} {ds : List PyData} (F : Fr h₀ L s.heap m) (N : News h₀ L s.heap news) (hm : (t, W.listOf vs.toArray n) ∈ news) (r : RdAll news vs ds) (hl : vs.length ≤ 20) (hg : A.guards = some []) (hu : A.units + 10 < cLine)
    (hQ : ∀ h' u tk, Fr h₀ L h' m → News h₀ L h' news → Q (.str (PyData.list ds).shown u) { s with heap := h', toks := tk }) : wpAny (model prog w) A (call (.builtin "repr") [.ref t]) Q E s :=
  repr_use F N (RdN.list hm r) (ok_list r.tiny (r.length ▸ hl)) hg hu hQ
theorem ne_same {x : Str} {t u : Tok} (h : Q (.bool false) s) : wpAny (model prog w) A (compareOp .NotEq (.str x t) (.str x u)) Q E s := ne_str (by simpa using h)
theorem eq_texts {x y : Str} {t u : Tok} (h : Q (.bool (x == y)) s) : wpAny (model prog w) A (compareOp .Eq (.str x t) (.str y u)) Q E s := eq_str h
end
end Mine
namespace Mine
structure LapMark (I : Addr) (oI : Obj) (deck c : Addr) (vs : List Value) : Prop where
structure Pruned : Prop where
theorem lapMark {h₀ h : Heap} {L I deck c : Addr} {oI : Obj} {vs : List Value} {p : Int} {tp : Tok} (_N : News h₀ L h [(I, oI), (deck, deckO c p tp), (c, LCg.lst vs)]) : LapMark I oI deck c vs := ⟨⟩
/-- the ledger, all dropped that the rest of the lap does not ask -/
theorem prune_use {prog : Program} {w : World} {A : Around} {α : Type} {E : Value → Shared → Prop} {s : Shared} {h₀ : Heap} {L : Addr} {m : Str → Option Value} {news : List (Addr × Obj)} {tr : Sem α} {Q : α → Shared → Prop}
    {I deck c t ao : Addr} {oI : Obj} {vs ys : List Value} {p : Int} {tp : Tok} {ms : List Int} {xb xl xd : Int} {vw vd vt vy va vh : Value} {bn bq : Bool} {tb tl td : Tok} {dw dd dt dy da dh : PyData}
    (_mk : LapMark I oI deck c vs) (_kn : ItemsKnow ao ys ms xb xl vw vd vt xd vy bn va bq vh tb tl td dw dd dt dy da dh) (_F : Fr h₀ L s.heap m) (N : News h₀ L s.heap news) (_ht : m (Str.ofString "items") = some (.ref t))
    (m1 : (t, tupO [.ref ao, .int xb tb, .int xl tl, vw, vd, vt, .int xd td, vy, .bool bn, va, .bool bq, vh]) ∈ news) (m2 : (ao, tupO ys) ∈ news) (mI : (I, oI) ∈ news) (md : (deck, deckO c p tp) ∈ news) (mc : (c, LCg.lst vs) ∈ news)
    (h : News h₀ L s.heap [(t, tupO [.ref ao, .int xb tb, .int xl tl, vw, vd, vt, .int xd td, vy, .bool bn, va, .bool bq, vh]), (ao, tupO ys), (I, oI), (deck, deckO c p tp), (c, LCg.lst vs)] → Pruned → wpAny (model prog w) A tr Q E s) : wpAny (model prog w) A tr Q E s := by
  refine h (fun q hq => ?_) ⟨⟩
  simp only [List.mem_cons, List.not_mem_nil, or_false] at hq
  rcases hq with rfl | rfl | rfl | rfl | rfl
  · exact N _ m1
  · exact N _ m2
  · exact N _ mI
  · exact N _ md
  · exact N _ mc
end Mine
end

/-! ## part Cut1 -/
section
open PySem PySem.W PySem.Calls PyProof.Rows PyProof.V PySem.Spec
set_option maxRecDepth 100000
namespace Mine

/-! ## a tuple cut at places that lie in it -/
section
variable {prog : Program} {w : World} {A : Around} {E : Value → Shared → Prop} {s : Shared}
theorem part_of {v : Value} {k : Option Int} {Q : Option Int → Shared → Prop} (p : IsPart v k) (h : Q k s) : wpAny (model prog w) A (Builtin.Slice.slicePartIndex v) Q E s := by
  cases p with
  | none => exact slicePart_none h
  | int i t => exact slicePart_int h

theorem applied_of {sl : Addr} {n a b : Nat} {vl vu : Value} {lo hi : Option Int} {Q : Int × Int × Nat → Shared → Prop} (hs : s.heap.IsSliceOf sl vl vu .none) (pl : IsPart vl lo) (pu : IsPart vu hi)
    (ha : Builtin.Slice.sliceAdjust lo hi 1 (n : Int) = ((a : Int), (b : Int))) (hab : a ≤ b) (h : Q ((a : Int), 1, b - a) s) : wpAny (model prog w) A (Builtin.Slice.sliceApplied (.ref sl) (pure (n : Int))) Q E s := by
  obtain ⟨os, hos, hcs, hds⟩ := id hs
  unfold Builtin.Slice.sliceApplied Builtin.Slice.sliceFields
  refine wpAny_bind (wpAny_bind (wpAny_field hos hds (x := vl) rfl (wpAny_bind (wpAny_field hos hds (x := vu) rfl (wpAny_bind (wpAny_field hos hds (x := .none) rfl (wpAny_pure ?_)))))))
  refine wpAny_bind (slicePart_none ?_)
  show wpAny _ _ (if ((1 : Int) == 0) = true then _ else _) _ _ s
  rw [if_neg (by decide)]
  refine wpAny_bind (part_of pl (wpAny_bind (part_of pu (wpAny_bind (wpAny_pure ?_)))))
  show wpAny _ _ (match Builtin.Slice.sliceAdjust lo hi 1 (n : Int) with | (lo, hi) => pure (lo, (1 : Int), Builtin.Slice.slicePlaces lo hi 1)) _ _ s
  rw [ha]
  show wpAny _ _ (pure ((a : Int), (1 : Int), Builtin.Slice.slicePlaces (a : Int) (b : Int) 1)) _ _ s
  have e : Builtin.Slice.slicePlaces (a : Int) (b : Int) 1 = b - a := by
    unfold Builtin.Slice.slicePlaces
    have h1 : (1 : Int) > 0 := by omega
    simp only [h1, if_true, Int.ediv_one]
    split <;> omega
  rw [e]
  exact wpAny_pure h

theorem pick_cut (xs : Array Value) (a k : Nat) : ((List.range k).filterMap fun (i : Nat) => xs[((a : Int) + (i : Int) * 1).toNat]?).toArray = ((xs.toList.drop a).take k).toArray := by
  have e : (fun (i : Nat) => xs[((a : Int) + (i : Int) * 1).toNat]?) = fun i => xs[a + i]? := by
    funext i
    have : ((a : Int) + (i : Int) * 1).toNat = a + i := by omega
    rw [this]
  rw [e, ← pick_run xs a k, List.filterMap_map]
  rfl

theorem getItem_cut {t sl : Addr} {items : Array Value} {a b : Nat} {vl vu : Value} {lo hi : Option Int} {Q : Value → Shared → Prop} (ht : IsTup s.heap t items) (hs : s.heap.IsSliceOf sl vl vu .none) (pl : IsPart vl lo) (pu : IsPart vu hi)
    (ha : Builtin.Slice.sliceAdjust lo hi 1 (items.size : Int) = ((a : Int), (b : Int))) (hab : a ≤ b) (hb : b ≤ items.size) (hno : ¬ (a = 0 ∧ b = items.size))
    (h : Q (.ref s.heap.objs.size) { s with heap := s.heap.push { cls := .type "tuple", data := .seq ((items.toList.drop a).take (b - a)).toArray } })
    (hsz : items.size ≤ sizeLine) : wpAny (model prog w) A (getItem (.ref t) (.ref sl)) Q E s := by
  have hok : sizeOk (.seq ((items.toList.drop a).take (b - a)).toArray) := by
    show ((items.toList.drop a).take (b - a)).toArray.size ≤ sizeLine
    rw [List.size_toArray, List.length_take, List.length_drop, Array.length_toList]
    omega
  obtain ⟨os, hos, hcs, hds⟩ := id hs
  have hTs : s.TypeIs (.ref sl) "slice" := ⟨os, hos, hcs⟩
  unfold getItem
  try with_reducible refine wpAny_holding ?_
  first | refine wpAny_bind (wpAny_pure ?_) | skip
  refine wpAny_bind (wpAny_sequenceKey ht.typeIs (by decide) ?_)
  refine wpAny_bind (wpAny_callSpecial?_slot (name := Str.ofString "__getitem__") ht.typeIs slot_tuple_getitem
    (wpAny_call_entry slot_tuple_getitem ht.typeIs entry_tuple_getitem ?_ (args_tuple_getitem _ _)))
  show wpAny _ _ (Builtin.Tuple.tupleItemsOf (.ref t) >>= _) _ _ s
  refine wpAny_bind (tupleItemsOf_ ht ?_)
  refine wpAny_bind (wpAny_typeOf hTs ?_)
  rw [if_pos (by decide)]
  refine wpAny_bind (applied_of hs pl pu ha hab ?_)
  have hno' : ¬ (((a : Int) == 0 && (1 : Int) == 1 && (b - a) == items.size) = true) := by
    simp only [Bool.and_eq_true, beq_iff_eq]
    omega
  show wpAny _ _ (if ((a : Int) == 0 && (1 : Int) == 1 && (b - a) == items.size) = true then _ else _) _ _ s
  rw [if_neg hno', pick_cut items a (b - a)]
  first
    | exact wpAny_bind (m := Builtin.Tuple.tupleExact _) (wpAny_newObj_type (wpAny_pure ⟨_, rfl, wpAny_pure h⟩) hok)
    | exact wpAny_bind (m := Builtin.Tuple.tupleExact _) (wpAny_newObj_type (wpAny_bind (wpAny_pure (wpAny_pure ⟨_, rfl, wpAny_pure h⟩))) hok)
    | exact wpAny_bind (wpAny_bind (m := Builtin.Tuple.tupleExact _) (wpAny_newObj_type (wpAny_pure (wpAny_pure ⟨_, rfl, wpAny_pure h⟩)) hok))
    | exact wpAny_bind (wpAny_bind (m := Builtin.Tuple.tupleExact _) (wpAny_newObj_type (wpAny_pure ⟨_, rfl, wpAny_pure h⟩) hok))

variable {h₀ : Heap} {L : Addr} {m : Str → Option Value} {news : List (Addr × Obj)}
theorem cut_use {value slice : Expr} {t : Addr} {vs : List Value} {a b : Nat} {vl vu : Value} {lo hi : Option Int} {Q : Value → Shared → Prop}
    (F : Fr h₀ L s.heap m) (N : News h₀ L s.heap news) (hm : (t, tupO vs) ∈ news) (pl : IsPart vl lo) (pu : IsPart vu hi)
    (ha : Builtin.Slice.sliceAdjust lo hi 1 (vs.length : Int) = ((a : Int), (b : Int))) (hab : a ≤ b) (hb : b ≤ vs.length) (hno : ¬ (a = 0 ∧ b = vs.length)) (hz : vs.length ≤ 100)
    (h : ∀ D h', Fr h₀ L h' m → News h₀ L h' ((D, tupO ((vs.drop a).take (b - a))) :: news) → Q (.ref D) { s with heap := h' })
    (hs : subscripted slice false (.ref t) (.ref s.heap.objs.size) = operate [.ref s.heap.objs.size, .ref t] (getItem (.ref t) (.ref s.heap.objs.size)))
    (hg : ∀ r, letTemporaryGo value (.ref t) r = pure ()) :
    wpAny (model prog w) A (subscriptTail value slice (.ref t) (.ref s.heap.objs.size)) Q E { s with heap := s.heap.push { cls := .type "slice", data := .fields #[vl, vu, .none] } } := by
  have ht : IsTup s.heap t vs.toArray := ⟨_, (N _ hm).1, rfl, _, rfl⟩
  have ht' : IsTup (s.heap.push { cls := .type "slice", data := .fields #[vl, vu, .none] }) t vs.toArray := ht.keeps fun _ _ e => Heap.get?_push_of_some _ e
  have e : vs.toArray.size = vs.length := List.size_toArray
  refine subscriptTail_ops (s := { s with heap := s.heap.push { cls := .type "slice", data := .fields #[vl, vu, .none] } }) ht'.typeIs slot_tuple_getitem.lookup
    (getItem_cut ht' (Heap.IsSliceOf.new ..) pl pu (by rw [e]; exact ha) hab (by rw [e]; exact hb) (by rw [e]; exact hno) ?_ (by rw [e, sizeLine_eq]; omega)) hs hg
  have N1 := News.push (F.push { cls := .type "slice", data := .fields #[vl, vu, .none] }) (N.grown fun _ _ e => Heap.get?_push_of_some _ e) (tupO ((vs.drop a).take (b - a)))
  exact h _ _ ((F.push _).push _) N1

theorem cut_upto {value slice : Expr} {t : Addr} {vs : List Value} {x : Int} {u : Tok} {Q : Value → Shared → Prop}
    (F : Fr h₀ L s.heap m) (N : News h₀ L s.heap news) (hm : (t, tupO vs) ∈ news) (h0 : 0 ≤ x) (h1 : x < (vs.length : Int)) (hz : vs.length ≤ 100)
    (h : ∀ D h', Fr h₀ L h' m → News h₀ L h' ((D, tupO (vs.take x.toNat)) :: news) → Q (.ref D) { s with heap := h' })
    (hs : subscripted slice false (.ref t) (.ref s.heap.objs.size) = operate [.ref s.heap.objs.size, .ref t] (getItem (.ref t) (.ref s.heap.objs.size)))
    (hg : ∀ r, letTemporaryGo value (.ref t) r = pure ()) :
    wpAny (model prog w) A (subscriptTail value slice (.ref t) (.ref s.heap.objs.size)) Q E { s with heap := s.heap.push { cls := .type "slice", data := .fields #[.none, .int x u, .none] } } := by
  refine cut_use (a := 0) (b := x.toNat) F N hm .none (.int x u) ?_ (by omega) (by omega) (by omega) hz (fun D h' F' N' => h D h' F' (by simpa using N')) hs hg
  unfold Builtin.Slice.sliceAdjust
  have h2 : ¬ (x < 0) := by omega
  simp only [show ¬ ((1 : Int) < 0) by omega, h2, if_false]
  congr 1
  omega

theorem cut_one {value slice : Expr} {t : Addr} {vs : List Value} {x : Int} {u u' : Tok} {Q : Value → Shared → Prop}
    (F : Fr h₀ L s.heap m) (N : News h₀ L s.heap news) (hm : (t, tupO vs) ∈ news) (h0 : 0 ≤ x) (h1 : x < (vs.length : Int)) (h2 : 2 ≤ vs.length) (hz : vs.length ≤ 100)
    (h : ∀ D h', Fr h₀ L h' m → News h₀ L h' ((D, tupO ((vs.drop x.toNat).take 1)) :: news) → Q (.ref D) { s with heap := h' })
    (hs : subscripted slice false (.ref t) (.ref s.heap.objs.size) = operate [.ref s.heap.objs.size, .ref t] (getItem (.ref t) (.ref s.heap.objs.size)))
    (hg : ∀ r, letTemporaryGo value (.ref t) r = pure ()) :
    wpAny (model prog w) A (subscriptTail value slice (.ref t) (.ref s.heap.objs.size)) Q E { s with heap := s.heap.push { cls := .type "slice", data := .fields #[.int x u, .int (x + 1) u', .none] } } := by
  refine cut_use (a := x.toNat) (b := x.toNat + 1) F N hm (.int x u) (.int (x + 1) u') ?_ (by omega) (by omega) (by omega) hz (fun D h' F' N' => h D h' F' (by simpa using N')) hs hg
  unfold Builtin.Slice.sliceAdjust
  have h2 : ¬ (x < 0) := by omega
  have h3 : ¬ (x + 1 < 0) := by omega
  simp only [show ¬ ((1 : Int) < 0) by omega, h2, h3, if_false]
  congr 1 <;> omega

theorem cut_from {value slice : Expr} {t : Addr} {vs : List Value} {x : Int} {u : Tok} {Q : Value → Shared → Prop}
    (F : Fr h₀ L s.heap m) (N : News h₀ L s.heap news) (hm : (t, tupO vs) ∈ news) (h0 : 0 ≤ x) (h1 : x < (vs.length : Int)) (hz : vs.length ≤ 100)
    (h : ∀ D h', Fr h₀ L h' m → News h₀ L h' ((D, tupO (vs.drop (x.toNat + 1))) :: news) → Q (.ref D) { s with heap := h' })
    (hs : subscripted slice false (.ref t) (.ref s.heap.objs.size) = operate [.ref s.heap.objs.size, .ref t] (getItem (.ref t) (.ref s.heap.objs.size)))
    (hg : ∀ r, letTemporaryGo value (.ref t) r = pure ()) :
    wpAny (model prog w) A (subscriptTail value slice (.ref t) (.ref s.heap.objs.size)) Q E { s with heap := s.heap.push { cls := .type "slice", data := .fields #[.int (x + 1) u, .none, .none] } } := by
  refine cut_use (a := x.toNat + 1) (b := vs.length) F N hm (.int (x + 1) u) .none ?_ (by omega) (by omega) (by omega) hz (fun D h' F' N' => h D h' F' ?_) hs hg
  · unfold Builtin.Slice.sliceAdjust
    have h3 : ¬ (x + 1 < 0) := by omega
    simp only [show ¬ ((1 : Int) < 0) by omega, h3, if_false]
    congr 1
    omega
  · rw [List.take_of_length_le (by rw [List.length_drop]; omega)] at N'
    exact N'

theorem add_use {t b : Addr} {vs ws : List Value} {Q : Value → Shared → Prop} (F : Fr h₀ L s.heap m) (N : News h₀ L s.heap news) (m1 : (t, tupO vs) ∈ news) (m2 : (b, tupO ws) ∈ news) (hz : vs.length + ws.length ≤ 1000)
    (h : ∀ D h', Fr h₀ L h' m → News h₀ L h' ((D, tupO (vs ++ ws)) :: news) → Q (.ref D) { s with heap := h' }) : wpAny (model prog w) A (binaryOp .Add (.ref t) (.ref b)) Q E s := by
  have same : ∀ D, (D, tupO (vs ++ ws)) ∈ news → Q (.ref D) s := fun D hD => h D s.heap F fun p hp => by
    rcases List.mem_cons.mp hp with rfl | hp
    · exact N _ hD
    · exact N p hp
  refine add_tuples F N ⟨_, (N _ m1).1, rfl, _, rfl⟩ ⟨_, (N _ m2).1, rfl, _, rfl⟩ (fun e => ?_) (fun _ e => ?_) (fun _ _ h' F' N' => h _ h' F' N') (by rw [sizeLine_eq]; omega)
  · subst e; exact same b (by simpa using m2)
  · subst e; exact same t (by simpa using m1)

/-- an item of a tuple at a place that lies in it -/
theorem item_use {value slice : Expr} {t : Addr} {vs : List Value} {x : Int} {u : Tok} {Q : Value → Shared → Prop} (N : News h₀ L s.heap news) (hm : (t, tupO vs) ∈ news) (h0 : 0 ≤ x) (h1 : x < (vs.length : Int)) (hz : vs.length ≤ 100)
    (h : ∀ v, vs[x.toNat]? = some v → Q v s)
    (hs : subscripted slice false (.ref t) (.int x u) = operate [.ref t, .int x u] (getItem (.ref t) (.int x u)) := by with_unfolding_all rfl) :
    wpAny (model prog w) A (subscriptTail value slice (.ref t) (.int x u)) Q E s := by
  have hlt : x.toNat < vs.length := by omega
  have hv : vs[x.toNat]? = some vs[x.toNat] := by simp [hlt]
  have hj : seqIndex? x vs.length = some x.toNat := by
    have e : (decide (0 ≤ x) && decide (x < (vs.length : Int))) = true := by simp [h0, h1]
    unfold seqIndex?
    simp only [show ¬ (x < 0) by omega, if_false, e, if_true]
  exact item_tupleT (l := vs) ⟨_, (N _ hm).1, rfl, _, rfl⟩ (by omega) (by omega) hj hv (h _ hv) hs
end

/-! ## one of the twelve exchanged -/
def mixL {α : Type} (k : Nat) (l l' : List α) : List α := (l.take k ++ (l'.drop k).take 1) ++ l.drop (k + 1)
structure Mix (vals ovals ws : List Value) (k : Nat) : Prop where
  eq : ws = mixL k vals ovals

theorem list12 {α : Type} {l : List α} (h : l.length = 12) : ∃ w0 w1 w2 w3 w4 w5 w6 w7 w8 w9 w10 w11, l = [w0, w1, w2, w3, w4, w5, w6, w7, w8, w9, w10, w11] := by
  rcases l with _ | ⟨a0, _ | ⟨a1, _ | ⟨a2, _ | ⟨a3, _ | ⟨a4, _ | ⟨a5, _ | ⟨a6, _ | ⟨a7, _ | ⟨a8, _ | ⟨a9, _ | ⟨a10, _ | ⟨a11, _ | ⟨a12, l⟩⟩⟩⟩⟩⟩⟩⟩⟩⟩⟩⟩⟩ <;> simp only [List.length_nil, List.length_cons] at h <;> first | omega | exact ⟨_, _, _, _, _, _, _, _, _, _, _, _, rfl⟩

theorem mixL_mem {α : Type} {k : Nat} {l l' : List α} {v : α} (h : v ∈ mixL k l l') : v ∈ l ∨ v ∈ l' := by
  unfold mixL at h
  rcases List.mem_append.mp h with h | h
  · rcases List.mem_append.mp h with h | h
    · exact .inl (List.mem_of_mem_take h)
    · exact .inr (List.mem_of_mem_drop (List.mem_of_mem_take h))
  · exact .inl (List.mem_of_mem_drop h)
theorem mixL_length {α : Type} {k : Nat} {l l' : List α} (hk : k < l.length) (hl : l'.length = l.length) : (mixL k l l').length = l.length := by
  unfold mixL
  simp only [List.length_append, List.length_take, List.length_drop]
  omega

theorem RdAll.take {news : List (Addr × Obj)} : ∀ {vs : List Value} {ds : List PyData}, RdAll news vs ds → ∀ k : Nat, RdAll news (vs.take k) (ds.take k)
  | _, _, _, 0 => .nil
  | _, _, .nil, _ + 1 => .nil
  | _, _, .cons h t r, k + 1 => .cons h t (r.take k)
theorem RdAll.drop {news : List (Addr × Obj)} : ∀ {vs : List Value} {ds : List PyData}, RdAll news vs ds → ∀ k : Nat, RdAll news (vs.drop k) (ds.drop k)
  | _, _, h, 0 => h
  | _, _, .nil, _ + 1 => .nil
  | _, _, .cons _ _ r, k + 1 => r.drop k
theorem RdAll.append {news : List (Addr × Obj)} {vs' : List Value} {ds' : List PyData} (h' : RdAll news vs' ds') : ∀ {vs : List Value} {ds : List PyData}, RdAll news vs ds → RdAll news (vs ++ vs') (ds ++ ds')
  | _, _, .nil => h'
  | _, _, .cons h t r => .cons h t (RdAll.append h' r)
theorem RdAll.mix {news : List (Addr × Obj)} {vals ovals ws : List Value} {k : Nat} {ds es : List PyData} (mx : Mix vals ovals ws k) (r : RdAll news vals ds) (r' : RdAll news ovals es) : RdAll news ws (mixL k ds es) := by
  rw [mx.eq]
  exact RdAll.append (r.drop (k + 1)) (RdAll.append ((r'.drop k).take 1) (r.take k))
theorem RdAll.get {news : List (Addr × Obj)} {v : Value} : ∀ {vs : List Value} {ds : List PyData}, RdAll news vs ds → ∀ k : Nat, vs[k]? = some v → RdN news v (ds.getD k .none) ∧ Tiny (ds.getD k .none)
  | _, _, .nil, _, e => by simp at e
  | _, _, .cons h t _, 0, e => by
    simp only [List.getElem?_cons_zero, Option.some.injEq] at e
    subst e
    exact ⟨h, t⟩
  | _, _, .cons _ _ r, k + 1, e => by
    simp only [List.getElem?_cons_succ] at e
    have := r.get k e
    simpa using this

section
variable {prog : Program} {w : World} {A : Around} {E : Value → Shared → Prop} {s : Shared} {h₀ : Heap} {L : Addr} {m : Str → Option Value} {news : List (Addr × Obj)}
/-- the last sum of the mixed: twelve values of their own names -/
theorem mix_use {t b : Addr} {vals ovals : List Value} {k : Nat} {Q : Value → Shared → Prop} (F : Fr h₀ L s.heap m) (N : News h₀ L s.heap news) (m1 : (t, tupO (vals.take k ++ (ovals.drop k).take 1)) ∈ news) (m2 : (b, tupO (vals.drop (k + 1))) ∈ news)
    (hk : k < 12) (hl : vals.length = 12) (hl' : ovals.length = 12) (H : Handed vals) (H' : Handed ovals)
    (h : ∀ D w0 w1 w2 w3 w4 w5 w6 w7 w8 w9 w10 w11 h', Fr h₀ L h' m → News h₀ L h' ((D, tupO [w0, w1, w2, w3, w4, w5, w6, w7, w8, w9, w10, w11]) :: news) → Mix vals ovals [w0, w1, w2, w3, w4, w5, w6, w7, w8, w9, w10, w11] k →
      Handed [w0, w1, w2, w3, w4, w5, w6, w7, w8, w9, w10, w11] → Q (.ref D) { s with heap := h' }) : wpAny (model prog w) A (binaryOp .Add (.ref t) (.ref b)) Q E s := by
  have hlen : (mixL k vals ovals).length = 12 := (mixL_length (by omega) (by omega)).trans hl
  refine add_use F N m1 m2 (by simp only [List.length_append, List.length_take, List.length_drop]; omega) fun D h' F' N' => ?_
  obtain ⟨w0, w1, w2, w3, w4, w5, w6, w7, w8, w9, w10, w11, e⟩ := list12 hlen
  refine h D w0 w1 w2 w3 w4 w5 w6 w7 w8 w9 w10 w11 h' F' ?_ ⟨e.symm⟩ ?_
  · have e' : vals.take k ++ (ovals.drop k).take 1 ++ vals.drop (k + 1) = mixL k vals ovals := rfl
    rw [e', e] at N'
    exact N'
  · intro v hv
    rw [← e] at hv
    exact (mixL_mem hv).elim (H v) (H' v)
end

/-! ## plain: a shown tuple with one item exchanged is the same text just where the item's text is -/
theorem join_at (sep : Str) (B : List Str) : ∀ A : List Str, ∃ pre post : Str, ∀ t : Str, Str.join sep (A ++ t :: B) = pre ++ t ++ post
  | [] => by
    cases B with
    | nil => exact ⟨Str.empty, Str.empty, fun t => by
        show t = Str.empty ++ t ++ Str.empty
        apply Str.ext'; simp [Str.cps_append, Str.empty]⟩
    | cons b B => exact ⟨Str.empty, sep ++ Str.join sep (b :: B), fun t => by
        show t ++ sep ++ Str.join sep (b :: B) = Str.empty ++ t ++ (sep ++ Str.join sep (b :: B))
        apply Str.ext'; simp [Str.cps_append, Str.empty]⟩
  | a :: A => by
    obtain ⟨pre, post, h⟩ := join_at sep B A
    refine ⟨a ++ sep ++ pre, post, fun t => ?_⟩
    have e : Str.join sep (a :: (A ++ t :: B)) = a ++ sep ++ Str.join sep (A ++ t :: B) := by
      cases A <;> rfl
    rw [List.cons_append, e, h t]
    apply Str.ext'; simp [Str.cps_append]
end Mine
namespace Mine
theorem shownAll_map : ∀ xs : List PyData, PyData.shownAll xs = xs.map PyData.shown
  | [] => by simp only [PyData.shownAll, List.map_nil]
  | x :: xs => by simp only [PyData.shownAll, List.map_cons, shownAll_map xs]
theorem cancel {p t t' q : Str} (h : p ++ t ++ q = p ++ t' ++ q) : t = t' := by
  have h1 := congrArg (fun x : Str => x.cps.toList) h
  simp only [Str.cps_append, Array.toList_append] at h1
  have h2 := List.append_cancel_left (List.append_cancel_right h1)
  exact Str.ext' (Array.toList_inj.mp h2)
theorem tuple_at (A B : List PyData) : ∃ pre post : Str, ∀ d : PyData, (PyData.tuple (A ++ d :: B)).shown = pre ++ d.shown ++ post := by
  obtain ⟨pre, post, h⟩ := join_at ", " (B.map PyData.shown) (A.map PyData.shown)
  refine ⟨"(" ++ pre, post ++ (if (A ++ PyData.none :: B).length == 1 then ",)" else ")" : String), fun d => ?_⟩
  have e : (PyData.tuple (A ++ d :: B)).shown = tupleText (PyData.shownAll (A ++ d :: B)) := by simp only [PyData.shown]
  rw [e, shownAll_map, List.map_append, List.map_cons]
  unfold tupleText
  rw [h d.shown]
  have hl : (A.map PyData.shown ++ d.shown :: B.map PyData.shown).length = (A ++ PyData.none :: B).length := by simp
  rw [hl]
  apply Str.ext'
  simp [Str.cps_append]
theorem mixL_eq {k : Nat} {ds es : List PyData} (hk : k < ds.length) (hl : es.length = ds.length) : mixL k ds es = ds.take k ++ es.getD k .none :: ds.drop (k + 1) := by
  unfold mixL
  have hk' : k < es.length := by omega
  have e : (es.drop k).take 1 = [es.getD k .none] := by
    have g : es.getD k .none = es[k] := by simp [hk']
    rw [List.drop_eq_getElem_cons hk', g, List.take_succ_cons, List.take_zero]
  rw [e, List.append_assoc]
  rfl
theorem self_eq {k : Nat} {ds : List PyData} (hk : k < ds.length) : ds = ds.take k ++ ds.getD k .none :: ds.drop (k + 1) := by
  have e : ds.getD k .none = ds[k] := by simp [hk]
  rw [e, ← List.drop_eq_getElem_cons hk, List.take_append_drop]
theorem mix_eq {k : Nat} {ds es : List PyData} (hk : k < ds.length) (hl : es.length = ds.length) :
    ((PyData.tuple (mixL k ds es)).shown == (PyData.tuple ds).shown) = ((es.getD k .none).shown == (ds.getD k .none).shown) := by
  obtain ⟨pre, post, h⟩ := tuple_at (ds.take k) (ds.drop (k + 1))
  have e1 : (PyData.tuple (mixL k ds es)).shown = pre ++ (es.getD k .none).shown ++ post := by rw [mixL_eq hk hl]; exact h _
  have e2 : (PyData.tuple ds).shown = pre ++ (ds.getD k .none).shown ++ post := by
    have := h (ds.getD k .none)
    rw [← self_eq hk] at this
    exact this
  rw [e1, e2, Bool.eq_iff_iff, beq_iff_eq, beq_iff_eq]
  exact ⟨cancel, fun q => by rw [q]⟩
section
variable {prog : Program} {w : World} {A : Around} {E : Value → Shared → Prop} {s : Shared} {h₀ : Heap} {L : Addr} {m : Str → Option Value} {news : List (Addr × Obj)} {Q : Value → Shared → Prop}
theorem ne_mix {k : Nat} {ds es : List PyData} (hk : k < 12) (h1 : ds.length = 12) (h2 : es.length = 12) (h : Q (.bool false) s) :
    wpAny (model prog w) A (compareOp .NotEq (.bool ((PyData.tuple (mixL k ds es)).shown == (PyData.tuple ds).shown)) (.bool ((es.getD k .none).shown == (ds.getD k .none).shown))) Q E s := by
  rw [mix_eq (by omega) (by omega)]
  exact ne_bool (by simpa using h)
theorem repr_at {v : Value} {vs : List Value} {ds : List PyData} {k : Nat} (F : Fr h₀ L s.heap m) (N : News h₀ L s.heap news) (hv : vs[k]? = some v) (r : RdAll news vs ds) (hg : A.guards = some []) (hu : A.units + 10 < cLine)
    (hQ : ∀ h' u tk, Fr h₀ L h' m → News h₀ L h' news → Q (.str (ds.getD k .none).shown u) { s with heap := h', toks := tk }) : wpAny (model prog w) A (call (.builtin "repr") [v]) Q E s :=
  repr_use F N (r.get k hv).1 (r.get k hv).2.ok hg hu hQ
end
end Mine

namespace Mine
structure PrunedB : Prop where
/-- the ledger once more: of the laps' things the items alone stay -/
theorem pruneB_use {prog : Program} {w : World} {A : Around} {α : Type} {E : Value → Shared → Prop} {s : Shared} {h₀ : Heap} {L : Addr} {m : Str → Option Value} {news : List (Addr × Obj)} {tr : Sem α} {Q : α → Shared → Prop}
    {I deck c t ao : Addr} {oI : Obj} {vs ys : List Value} {p : Int} {tp : Tok} {ms : List Int} {xb xl xd : Int} {vw vd vt vy va vh : Value} {bn bq : Bool} {tb tl td : Tok} {dw dd dt dy da dh : PyData}
    (_mk : LapMark I oI deck c vs) (_kn : ItemsKnow ao ys ms xb xl vw vd vt xd vy bn va bq vh tb tl td dw dd dt dy da dh) (_F : Fr h₀ L s.heap m) (N : News h₀ L s.heap news) (_ht : m (Str.ofString "items") = some (.ref t))
    (m1 : (t, tupO [.ref ao, .int xb tb, .int xl tl, vw, vd, vt, .int xd td, vy, .bool bn, va, .bool bq, vh]) ∈ news) (m2 : (ao, tupO ys) ∈ news) (mI : (I, oI) ∈ news) (md : (deck, deckO c p tp) ∈ news) (mc : (c, LCg.lst vs) ∈ news)
    (h : News h₀ L s.heap [(t, tupO [.ref ao, .int xb tb, .int xl tl, vw, vd, vt, .int xd td, vy, .bool bn, va, .bool bq, vh]), (ao, tupO ys), (I, oI), (deck, deckO c p tp), (c, LCg.lst vs)] → PrunedB → wpAny (model prog w) A tr Q E s) : wpAny (model prog w) A tr Q E s :=
  prune_use _mk _kn _F N _ht m1 m2 mI md mc fun N' _ => h N' ⟨⟩
end Mine
end

/-! ## part Named1 -/
section
open PySem PySem.W PySem.Calls PyProof.Rows
set_option maxRecDepth 100000
namespace Mine
/-- what stands behind the first look at the heap -/
def unload {α : Type} : Sem α → Obj → Sem α
  | .load _ _ k, o => k o
  | t, _ => t
theorem binds_load {K : Frag} {s : Shared} {fd : FuncData} {args : Args} {binds : List (Str × Value)} {T : Addr} {o : Obj} (X : K.In s.heap) (_hT : fd.defaults = .ref T) (ho : K.lookup T = some o)
    (h1 : bindArgs fd args = Sem.load T none (unload (bindArgs fd args))) (h2 : unload (bindArgs fd args) o = pure binds) : BindsTo s fd args binds := fun M A E Q hq => by
  rw [h1]
  show wpAny M A (load T >>= unload (bindArgs fd args)) Q E s
  exact wpAny_bind (wpAny_load (X _ _ ho) (by rw [h2]; exact wpAny_pure hq))
local macro_rules | `(tactic| k_all) => `(tactic| assumption)
set_option maxHeartbeats 8000000 in
theorem kw_use {w : World} {mg mb : Str → Option Value} {mean : ExcName → Option Value} {dp un : Nat} {gd : Option (List Code)} {cn : Str} {cs : Scope} {a : Addr} {ccd : Value} {cl : List (Str × Addr)} {outer : List Env} {A₀ : Around} {base h₀ : Heap} {L : Addr} {m : Str → Option Value} {s : Shared}
    {v0 v1 v2 v3 v4 v5 v6 v7 v8 v9 v10 v11 : Value} {news : List (Addr × Obj)} {Q E : Value → Shared → Prop}
    (B : Below A₀ base outer h₀) (F : Fr h₀ L s.heap m) (X : (hdA.heap_39 w.params).In h₀)
    (T : Top hdA.view_39 (looseW hdA.view_39 [Str.ofString "ParseState"]) mean mg mb h₀) (hk : cs.kind = .function)
    (N : News h₀ L s.heap news)
    (hd : dp + 40 < recursionLimit) (hu : un + 200 < cLine)
    (ret : ∀ x dx k0 k1 k2 k3 k4 k5 k6 k7 k8 k9 k10 k11 h' tk', Fr h₀ L h' m → News h₀ L h' ((x, instObj 61 dx) :: (dx, psD w.params k0 k1 k2 k3 k4 k5 k6 k7 k8 k9 k10 k11 v0 v1 v2 v3 v4 v5 v6 v7 v8 v9 v10 v11) :: news) → Q (.ref x) { s with heap := h', toks := tk' }) :
    wpAny (model Challenge.rw_ok0038_01.row.prog w) (ktrTop dp un gd cn cs L a ccd cl outer) (call (.ref 61) [] [(Str.ofString "opens", v0), (Str.ofString "below", v1), (Str.ofString "least", v2), (Str.ofString "whole", v3), (Str.ofString "word", v4), (Str.ofString "string", v5), (Str.ofString "comment", v6), (Str.ofString "style", v7), (Str.ofString "nests", v8), (Str.ofString "start", v9), (Str.ofString "quoted", v10), (Str.ofString "half", v11)]) Q E s := by
  revert X; k_fill; intro X
  k_dflt (refine' call_cls ?k1 ?k2 ?k3 ?k4 ?k5 ?k6 ?_; (case k1 => k_asm); (case k2 => k_asm); (case k3 => k_asm); (case k4 => k_is); (case k5 => k_is); (case k6 => k_is); k_whole; intro x' d' h' F' N' l1 l2)
  have l3 : ∀ p ∈ news, p.1 ≠ d' := fun p hp => Nat.ne_of_lt (l1 p hp)
  replace l2 := ltN l2
  clear N F
  have X₁ : (hdA.heap_39 w.params).In h' := Frag.In.keeps X F'.keep
  k_dflt (refine' code_def (binds := [(Str.ofString "self", .ref x'), (Str.ofString "opens", v0), (Str.ofString "below", v1), (Str.ofString "least", v2), (Str.ofString "whole", v3), (Str.ofString "word", v4), (Str.ofString "string", v5), (Str.ofString "comment", v6), (Str.ofString "style", v7), (Str.ofString "nests", v8), (Str.ofString "start", v9), (Str.ofString "quoted", v10), (Str.ofString "half", v11)]) ?k1 ?k2 ?k3 ?k4 ?k5 ?kA ?kF ?kK ?k6 ?k7 ?k8 ?k9 ?kB ?_ ?c2 ?c3 ?c4 ?c5; (case kA => exact rfl); (case kF => exact rfl); (case kK => assumption); (case k1 => k_asm); (case k2 => k_asm); (case k3 => k_asm); (case k4 => k_asm); (case k5 => k_asm); (case k6 => k_is); (case k7 => k_is); (case k8 => (simp only [depth_under_make, depth_under_kw, depth_in1, depth_deeper, ktrTop]; omega)); (case c5 => decide); (case kB => exact locs rfl); (case c2 => exact rfl); (case c3 => exact rfl); (case c4 => exact rfl))
  · with_reducible exact binds_load X₁ (by k_dflt exact rfl) (by k_dflt k_is) (by kernel_rfl!) (by kernel_rfl!)
  intro g' L' h'' FG' F'' N'' B' X' T'
  (try dsimp only); (try k_fold)
  k_steps
  exact ret _ _ _ _ _ _ _ _ _ _ _ _ _ _ _ _ (by assumption) (by assumption)

/-- the call as the walk brings it: the names still to be read off the keywords -/
theorem kw_use2 {w : World} {mg mb : Str → Option Value} {mean : ExcName → Option Value} {dp un : Nat} {gd : Option (List Code)} {cn : Str} {cs : Scope} {a : Addr} {ccd : Value} {cl : List (Str × Addr)} {outer : List Env} {A₀ : Around} {base h₀ : Heap} {L : Addr} {m : Str → Option Value} {s : Shared}
    {v0 v1 v2 v3 v4 v5 v6 v7 v8 v9 v10 v11 : Value} {names : List Str} {news : List (Addr × Obj)} {Q E : Value → Shared → Prop}
    (B : Below A₀ base outer h₀) (F : Fr h₀ L s.heap m) (X : (hdA.heap_39 w.params).In h₀)
    (T : Top hdA.view_39 (looseW hdA.view_39 [Str.ofString "ParseState"]) mean mg mb h₀) (hk : cs.kind = .function)
    (N : News h₀ L s.heap news)
    (hn : names = [Str.ofString "opens", Str.ofString "below", Str.ofString "least", Str.ofString "whole", Str.ofString "word", Str.ofString "string", Str.ofString "comment", Str.ofString "style", Str.ofString "nests", Str.ofString "start", Str.ofString "quoted", Str.ofString "half"])
    (hd : dp + 40 < recursionLimit) (hu : un + 200 < cLine)
    (ret : ∀ x dx k0 k1 k2 k3 k4 k5 k6 k7 k8 k9 k10 k11 h' tk', Fr h₀ L h' m → News h₀ L h' ((x, instObj 61 dx) :: (dx, psD w.params k0 k1 k2 k3 k4 k5 k6 k7 k8 k9 k10 k11 v0 v1 v2 v3 v4 v5 v6 v7 v8 v9 v10 v11) :: news) → Q (.ref x) { s with heap := h', toks := tk' }) :
    wpAny (model Challenge.rw_ok0038_01.row.prog w) (ktrTop dp un gd cn cs L a ccd cl outer) (call (.ref 61) [] (names.zip [v0, v1, v2, v3, v4, v5, v6, v7, v8, v9, v10, v11])) Q E s := by
  subst hn
  exact kw_use B F X T hk N hd hu ret

set_option maxHeartbeats 8000000 in
theorem nothing_use {w : World} {mg mb : Str → Option Value} {mean : ExcName → Option Value} {dp un : Nat} {gd : Option (List Code)} {cn : Str} {cs : Scope} {a : Addr} {ccd : Value} {cl : List (Str × Addr)} {outer : List Env} {A₀ : Around} {base h₀ : Heap} {L : Addr} {m : Str → Option Value} {s : Shared}
    {news : List (Addr × Obj)} {Q E : Value → Shared → Prop}
    (B : Below A₀ base outer h₀) (F : Fr h₀ L s.heap m) (X : (hdA.heap_39 w.params).In h₀)
    (T : Top hdA.view_39 (looseW hdA.view_39 [Str.ofString "ParseState"]) mean mg mb h₀) (hk : cs.kind = .function)
    (N : News h₀ L s.heap news)
    (hd : dp + 40 < recursionLimit) (hu : un + 200 < cLine)
    (ret : ∀ x dx k0 k1 k2 k3 k4 k5 k6 k7 k8 k9 k10 k11 h' tk', Fr h₀ L h' m → News h₀ L h' ((x, instObj 61 dx) :: (dx, psD w.params k0 k1 k2 k3 k4 k5 k6 k7 k8 k9 k10 k11 (.ref 22) (.int 0 201) (.int 0 202) (.none) (.none) (.none) (.int 0 203) (.str (Str.ofString "") 204) (.bool false) (.none) (.bool false) (.str (Str.ofString "") 205)) :: news) → Q (.ref x) { s with heap := h', toks := tk' }) :
    wpAny (model Challenge.rw_ok0038_01.row.prog w) (ktrTop dp un gd cn cs L a ccd cl outer) (call (.ref 61) [] []) Q E s := by
  revert X; k_fill; intro X
  k_dflt (refine' call_cls ?k1 ?k2 ?k3 ?k4 ?k5 ?k6 ?_; (case k1 => k_asm); (case k2 => k_asm); (case k3 => k_asm); (case k4 => k_is); (case k5 => k_is); (case k6 => k_is); k_whole; intro x' d' h' F' N' l1 l2)
  have l3 : ∀ p ∈ news, p.1 ≠ d' := fun p hp => Nat.ne_of_lt (l1 p hp)
  replace l2 := ltN l2
  clear N F
  have X₁ : (hdA.heap_39 w.params).In h' := Frag.In.keeps X F'.keep
  k_dflt (refine' code_def (binds := [(Str.ofString "self", .ref x'), (Str.ofString "opens", .ref 22), (Str.ofString "below", .int 0 201), (Str.ofString "least", .int 0 202), (Str.ofString "whole", .none), (Str.ofString "word", .none), (Str.ofString "string", .none), (Str.ofString "comment", .int 0 203), (Str.ofString "style", .str (Str.ofString "") 204), (Str.ofString "nests", .bool false), (Str.ofString "start", .none), (Str.ofString "quoted", .bool false), (Str.ofString "half", .str (Str.ofString "") 205)]) ?k1 ?k2 ?k3 ?k4 ?k5 ?kA ?kF ?kK ?k6 ?k7 ?k8 ?k9 ?kB ?_ ?c2 ?c3 ?c4 ?c5; (case kA => exact rfl); (case kF => exact rfl); (case kK => assumption); (case k1 => k_asm); (case k2 => k_asm); (case k3 => k_asm); (case k4 => k_asm); (case k5 => k_asm); (case k6 => k_is); (case k7 => k_is); (case k8 => (simp only [depth_under_make, depth_under_kw, depth_in1, depth_deeper, ktrTop]; omega)); (case c5 => decide); (case kB => exact locs rfl); (case c2 => exact rfl); (case c3 => exact rfl); (case c4 => exact rfl))
  · with_reducible exact binds_load X₁ (by k_dflt exact rfl) (by k_dflt k_is) (by kernel_rfl!) (by kernel_rfl!)
  intro g' L' h'' FG' F'' N'' B' X' T'
  (try dsimp only); (try k_fold)
  k_steps
  exact ret _ _ _ _ _ _ _ _ _ _ _ _ _ _ _ _ (by assumption) (by assumption)


theorem nothing_handed : Handed [.ref 22, .int 0 201, .int 0 202, .none, .none, .none, .int 0 203, .str (Str.ofString "") 204, .bool false, .none, .bool false, .str (Str.ofString "") 205] := by
  intro v hv
  simp only [List.mem_cons, List.not_mem_nil, or_false] at hv
  rcases hv with rfl | rfl | rfl | rfl | rfl | rfl | rfl | rfl | rfl | rfl | rfl | rfl <;> rfl
end Mine
end

/-! ## part Told0 -/
section
open PySem PySem.W PySem.Calls PyProof.Rows
set_option maxRecDepth 100000
namespace Mine
local macro_rules | `(tactic| k_enter) => `(tactic| (
  refine' code_def ?k1 ?k2 ?k3 ?k4 ?k5 ?kA ?kF ?kK ?k6 ?k7 ?k8 ?k9 ?kB ?_ ?c2 ?c3 ?c4 ?c5; (case kA => exact rfl); (case kF => exact rfl); (case kK => exact rfl); (case k1 => k_asm); (case k2 => k_asm); (case k3 => k_asm); (case k4 => k_asm); (case k5 => k_asm); (case k6 => k_is); (case k7 => k_is); (case k8 => (simp only [depth_under_make, depth_under_kw, depth_in1, depth_deeper, ktrTop]; omega)); (case k9 => first | exact BindsTo.of_eq rfl | exact binds_K (by k_in) rfl (by k_is) rfl rfl rfl); (case c5 => decide); (case kB => exact locs rfl); (case c2 => exact rfl); (case c3 => exact rfl); (case c4 => exact rfl); k_whole; intro g' L' h' FG' F' N' B' X' T'; (try dsimp only); (try k_lift B'); (try k_fold)))
set_option maxHeartbeats 8000000 in
theorem told0_use {w : World} {mg mb : Str → Option Value} {mean : ExcName → Option Value} {dp un : Nat} {gd : Option (List Code)} {cn : Str} {cs : Scope} {a : Addr} {ccd : Value} {cl : List (Str × Addr)} {outer : List Env} {A₀ : Around} {base h₀ : Heap} {L : Addr} {m : Str → Option Value} {s : Shared}
    {x dx : Addr} {k0 k1 k2 k3 k4 k5 k6 k7 k8 k9 k10 k11 : Tok} {news : List (Addr × Obj)} {Q E : Value → Shared → Prop}
    (B : Below A₀ base outer h₀) (F : Fr h₀ L s.heap m) (X : (hdA.heap_39 w.params).In h₀)
    (T : Top hdA.view_39 (looseW hdA.view_39 [Str.ofString "ParseState"]) mean mg mb h₀) (hk : cs.kind = .function)
    (hd : dp + 60 < recursionLimit) (hu : un + 250 < cLine)
    (N : News h₀ L s.heap ((x, instObj 61 dx) :: (dx, psD w.params k0 k1 k2 k3 k4 k5 k6 k7 k8 k9 k10 k11 (.ref 22) (.int 0 201) (.int 0 202) (.none) (.none) (.none) (.int 0 203) (.str (Str.ofString "") 204) (.bool false) (.none) (.bool false) (.str (Str.ofString "") 205)) :: news))
    (ret : ∀ t ta h' tk', Fr h₀ L h' m → News h₀ L h' ((t, tupO [.int 0 ta, .none, .none, .none, .none, .bool false, .int 0 202, .str (Str.ofString "") 204, .none, .ref 22]) :: (x, instObj 61 dx) :: (dx, psD w.params k0 k1 k2 k3 k4 k5 k6 k7 k8 k9 k10 k11 (.ref 22) (.int 0 201) (.int 0 202) (.none) (.none) (.none) (.int 0 203) (.str (Str.ofString "") 204) (.bool false) (.none) (.bool false) (.str (Str.ofString "") 205)) :: news) → Q (.ref t) { s with heap := h', toks := tk' }) :
    wpAny (model Challenge.rw_ok0038_01.row.prog w) (ktrTop dp un gd cn cs L a ccd cl outer) (call (.ref 79) [.ref x]) Q E s := by
  revert X; k_fill; intro X
  refine wpAny_call ?_
  k_dflt (refine' code_def ?k1 ?k2 ?k3 ?k4 ?k5 ?kA ?kF ?kK ?k6 ?k7 ?k8 ?k9 ?kB ?_ ?c2 ?c3 ?c4 ?c5; (case kA => exact rfl); (case kF => exact rfl); (case kK => assumption); (case k1 => k_asm); (case k2 => k_asm); (case k3 => k_asm); (case k4 => k_asm); (case k5 => k_asm); (case k6 => k_is); (case k7 => k_is); (case k8 => (simp only [depth_under_make, depth_under_kw, depth_in1, depth_deeper, ktrTop]; omega)); (case k9 => exact BindsTo.of_eq rfl); (case c5 => decide); (case kB => exact locs rfl); (case c2 => exact rfl); (case c3 => exact rfl); (case c4 => exact rfl); k_whole; intro g' L' h'' FG' F'' N'' B' X' T')
  clear N F
  (try dsimp only); (try k_fold)
  k_steps
  exact ret _ _ _ _ (by assumption) (by assumption)
end Mine
end

/-! ## part End1 -/
section
open PySem PySem.W PySem.Calls PyProof.Rows PyProof.V PySem.Spec
set_option maxRecDepth 100000
namespace Mine
/-- a value that reads as a datum, the written defaults of the program among its parts -/
def RdK (w : World) (news : List (Addr × Obj)) (v : Value) (d : PyData) : Prop :=
  ∀ (h₀ h : Heap) (L : Addr) (m : Str → Option Value), Fr h₀ L h m → News h₀ L h news → (hdA.heap_39 w.params).In h₀ → ∃ as, Reads h v d as
inductive RdKs (w : World) (news : List (Addr × Obj)) : List Value → List PyData → Prop
  | nil : RdKs w news [] []
  | cons {v : Value} {d : PyData} {vs : List Value} {ds : List PyData} : RdK w news v d → RdKs w news vs ds → RdKs w news (v :: vs) (d :: ds)
theorem RdKs.reads {w : World} {news : List (Addr × Obj)} {h₀ h : Heap} {L : Addr} {m : Str → Option Value} (F : Fr h₀ L h m) (N : News h₀ L h news) (X : (hdA.heap_39 w.params).In h₀) :
    ∀ {vs : List Value} {ds : List PyData}, RdKs w news vs ds → ∃ as, ReadsAll h vs ds as
  | _, _, .nil => ⟨_, .nil⟩
  | _, _, .cons h r => let ⟨_, a⟩ := h _ _ _ _ F N X; let ⟨_, b⟩ := r.reads F N X; ⟨_, .cons a b⟩
theorem RdK.at' {w : World} {news : List (Addr × Obj)} {v : Value} {d : PyData} (h : pyOf v = some d) : RdK w news v d := fun _ h' _ _ _ _ _ => ⟨_, flat_of h h'⟩
theorem RdK.tup {w : World} {news : List (Addr × Obj)} {t : Addr} {vs : List Value} {ds : List PyData} (hm : (t, tupO vs) ∈ news) (r : RdKs w news vs ds) : RdK w news (.ref t) (.tuple ds) := fun h₀ h L m F N X => by
  obtain ⟨as, a⟩ := r.reads F N X
  exact ⟨_, .tuple (N _ hm).1 rfl rfl (by simpa using a)⟩
theorem look22 (p : Params) : (hdA.heap_39 p).lookup 22 = some (tupO []) := by kernel_rfl!
theorem RdK.k22 {w : World} {news : List (Addr × Obj)} : RdK w news (.ref 22) (.tuple []) := fun _ _ _ _ F _ X =>
  ⟨_, .tuple (Frag.In.keeps X F.keep _ _ (look22 _)) rfl rfl .nil⟩

section
variable {prog : Program} {w : World} {A : Around} {E : Value → Shared → Prop} {s : Shared} {h₀ : Heap} {L : Addr} {m : Str → Option Value} {news : List (Addr × Obj)} {a b : Value} {d : PyData} {Q : Value → Shared → Prop}
theorem ne_data (F : Fr h₀ L s.heap m) (N : News h₀ L s.heap news) (X : (hdA.heap_39 w.params).In h₀) (ra : RdK w news a d) (rb : RdK w news b d)
    (hc : d.canLay0 = true) (hd : d.depth ≤ 4) (he : PyData.eqv d d = true) (hu : A.units + 10 < cLine) (hQ : Q (.bool false) s) : wpAny (model prog w) A (compareOp .NotEq a b) Q E s := by
  obtain ⟨_, r1⟩ := ra _ _ _ _ F N X
  obtain ⟨_, r2⟩ := rb _ _ _ _ F N X
  exact SeqAt.compareNe_reads r1 r2 hc hc (by rw [Nat.min_self]; omega) (by rw [he]; exact hQ)
theorem eq_data (F : Fr h₀ L s.heap m) (N : News h₀ L s.heap news) (X : (hdA.heap_39 w.params).In h₀) (ra : RdK w news a d) (rb : RdK w news b d)
    (hc : d.canLay0 = true) (hd : d.depth ≤ 4) (he : PyData.eqv d d = true) (hu : A.units + 10 < cLine) (hQ : Q (.bool true) s) : wpAny (model prog w) A (compareOp .Eq a b) Q E s := by
  obtain ⟨_, r1⟩ := ra _ _ _ _ F N X
  obtain ⟨_, r2⟩ := rb _ _ _ _ F N X
  exact SeqAt.compareEq_reads r1 r2 hc hc (by rw [Nat.min_self]; omega) (by rw [he]; exact hQ)
end
/-- what items() of the state of nothing reads as -/
def nothingD : PyData := .tuple [.tuple [], .int 0, .int 0, .none, .none, .none, .int 0, .str (Str.ofString ""), .bool false, .none, .bool false, .str (Str.ofString "")]
/-- what the Lisp is told of the state of nothing -/
def nothingT : PyData := .tuple [.int 0, .none, .none, .none, .none, .bool false, .int 0, .str (Str.ofString ""), .none, .tuple []]
theorem nothingD_can : nothingD.canLay0 = true := by decide +kernel
theorem nothingT_can : nothingT.canLay0 = true := by decide +kernel
theorem nothingD_eqv : PyData.eqv nothingD nothingD = true := by decide +kernel
theorem nothingT_eqv : PyData.eqv nothingT nothingT = true := by decide +kernel
theorem nothingD_deep : nothingD.depth ≤ 4 := by decide +kernel
theorem nothingT_deep : nothingT.depth ≤ 4 := by decide +kernel
section
variable {prog : Program} {w : World} {A : Around} {E : Value → Shared → Prop} {s : Shared} {h₀ : Heap} {L : Addr} {m : Str → Option Value} {news : List (Addr × Obj)} {Q : Value → Shared → Prop}
  {t t' e : Addr} {a1 a2 a3 a4 a5 b1 b2 b3 b4 b5 : Tok}
theorem ne_nothing (F : Fr h₀ L s.heap m) (N : News h₀ L s.heap news) (X : (hdA.heap_39 w.params).In h₀)
    (ma : (t, tupO [.ref 22, .int 0 a1, .int 0 a2, .none, .none, .none, .int 0 a3, .str (Str.ofString "") a4, .bool false, .none, .bool false, .str (Str.ofString "") a5]) ∈ news)
    (mb : (t', tupO [.ref e, .int 0 b1, .int 0 b2, .none, .none, .none, .int 0 b3, .str (Str.ofString "") b4, .bool false, .none, .bool false, .str (Str.ofString "") b5]) ∈ news)
    (me : (e, tupO []) ∈ news) (hu : A.units + 10 < cLine) (hQ : Q (.bool false) s) : wpAny (model prog w) A (compareOp .NotEq (.ref t) (.ref t')) Q E s := by
  refine ne_data (d := nothingD) F N X (RdK.tup ma ?_) (RdK.tup mb ?_) nothingD_can nothingD_deep nothingD_eqv hu hQ
  · exact .cons .k22 (.cons (.at' rfl) (.cons (.at' rfl) (.cons (.at' rfl) (.cons (.at' rfl) (.cons (.at' rfl) (.cons (.at' rfl) (.cons (.at' rfl) (.cons (.at' rfl) (.cons (.at' rfl) (.cons (.at' rfl) (.cons (.at' rfl) .nil)))))))))))
  · exact .cons (.tup me .nil) (.cons (.at' rfl) (.cons (.at' rfl) (.cons (.at' rfl) (.cons (.at' rfl) (.cons (.at' rfl) (.cons (.at' rfl) (.cons (.at' rfl) (.cons (.at' rfl) (.cons (.at' rfl) (.cons (.at' rfl) (.cons (.at' rfl) .nil)))))))))))
theorem eq_nothing (F : Fr h₀ L s.heap m) (N : News h₀ L s.heap news) (X : (hdA.heap_39 w.params).In h₀)
    (ma : (t, tupO [.int 0 a1, .none, .none, .none, .none, .bool false, .int 0 a2, .str (Str.ofString "") a3, .none, .ref 22]) ∈ news)
    (mb : (t', tupO [.int 0 b1, .none, .none, .none, .none, .bool false, .int 0 b2, .str (Str.ofString "") b3, .none, .ref e]) ∈ news)
    (me : (e, tupO []) ∈ news) (hu : A.units + 10 < cLine) (hQ : Q (.bool true) s) : wpAny (model prog w) A (compareOp .Eq (.ref t) (.ref t')) Q E s := by
  refine eq_data (d := nothingT) F N X (RdK.tup ma ?_) (RdK.tup mb ?_) nothingT_can nothingT_deep nothingT_eqv hu hQ
  · exact .cons (.at' rfl) (.cons (.at' rfl) (.cons (.at' rfl) (.cons (.at' rfl) (.cons (.at' rfl) (.cons (.at' rfl) (.cons (.at' rfl) (.cons (.at' rfl) (.cons (.at' rfl) (.cons .k22 .nil)))))))))
  · exact .cons (.at' rfl) (.cons (.at' rfl) (.cons (.at' rfl) (.cons (.at' rfl) (.cons (.at' rfl) (.cons (.at' rfl) (.cons (.at' rfl) (.cons (.at' rfl) (.cons (.at' rfl) (.cons (.tup me .nil) .nil)))))))))
end
theorem told0_use2 {w : World} {mg mb : Str → Option Value} {mean : ExcName → Option Value} {dp un : Nat} {gd : Option (List Code)} {cn : Str} {cs : Scope} {a : Addr} {ccd : Value} {cl : List (Str × Addr)} {outer : List Env} {A₀ : Around} {base h₀ : Heap} {L : Addr} {m : Str → Option Value} {s : Shared}
    {x dx : Addr} {k0 k1 k2 k3 k4 k5 k6 k7 k8 k9 k10 k11 : Tok} {news : List (Addr × Obj)} {Q E : Value → Shared → Prop}
    (B : Below A₀ base outer h₀) (F : Fr h₀ L s.heap m) (X : (hdA.heap_39 w.params).In h₀)
    (T : Top hdA.view_39 (looseW hdA.view_39 [Str.ofString "ParseState"]) mean mg mb h₀) (hk : cs.kind = .function)
    (N : News h₀ L s.heap news) (hm : (x, instObj 61 dx) ∈ news)
    (hm2 : (dx, psD w.params k0 k1 k2 k3 k4 k5 k6 k7 k8 k9 k10 k11 (.ref 22) (.int 0 201) (.int 0 202) (.none) (.none) (.none) (.int 0 203) (.str (Str.ofString "") 204) (.bool false) (.none) (.bool false) (.str (Str.ofString "") 205)) ∈ news)
    (hd : dp + 60 < recursionLimit) (hu : un + 250 < cLine)
    (ret : ∀ t ta h' tk', Fr h₀ L h' m → News h₀ L h' ((t, tupO [.int 0 ta, .none, .none, .none, .none, .bool false, .int 0 202, .str (Str.ofString "") 204, .none, .ref 22]) :: news) → Q (.ref t) { s with heap := h', toks := tk' }) :
    wpAny (model Challenge.rw_ok0038_01.row.prog w) (ktrTop dp un gd cn cs L a ccd cl outer) (call (.ref 79) [.ref x]) Q E s := by
  refine told0_use (news := news) (k0 := k0) (k1 := k1) (k2 := k2) (k3 := k3) (k4 := k4) (k5 := k5) (k6 := k6) (k7 := k7) (k8 := k8) (k9 := k9) (k10 := k10) (k11 := k11) (dx := dx) B F X T hk hd hu (fun p hp => ?_) fun t ta h2 tk2 F2 N2 => ret t ta h2 tk2 F2 fun p hp => ?_
  · rcases List.mem_cons.mp hp with rfl | hp
    · exact N _ hm
    · rcases List.mem_cons.mp hp with rfl | hp
      · exact N _ hm2
      · exact N _ hp
  · rcases List.mem_cons.mp hp with rfl | hp
    · exact N2 _ (.head _)
    · exact N2 _ (.tail _ (.tail _ (.tail _ hp)))
end Mine
end

/-! ## the law -/
section
open PySem PySem.W PySem.Calls PyProof.Rows PyProof.V PySem.Spec
open Mine
namespace Mine
end Mine
-- draws
local macro_rules | `(tactic| walk_at "call ref") => `(tactic| (
  k_here; (with_reducible show wpAny _ _ (call (Value.ref 86) _) _ _ _)
  k_dflt (refine' draw_use (by k_asm) (by k_asm) (by k_asm) (by k_asm) (by first | exact rfl | assumption) (by k_asm) (by k_updF) (by k_mem) (by assumption) (by decide) (by decide) (by (simp only [List.length_map, List.length_take] at *; omega)) (by omega) (by omega) (by omega) (by omega) (by first | assumption | omega) ?_; k_whole)
  intro x' t' h' tk' tp' F' N' xlo' xhi'; (try dsimp only at N'); (try k_sweep)))
local macro_rules | `(tactic| walk_at "call ref") => `(tactic| (
  k_here; (with_reducible show wpAny _ _ (call (Value.ref 91) _) _ _ _)
  k_dflt (refine' items_use (by k_asm) (by k_asm) (by k_asm) (by k_asm) (by first | exact rfl | assumption) (by k_asm) (by k_updF) (by k_mem) (by assumption) (by decide) (by decide) (by (simp only [List.length_map, List.length_take] at *; omega)) (by omega) (by omega) (by first | assumption | omega) ?_; k_whole)
  intro t' ao' ys' ms' xb' xl' vw' vd' vt' xd' vy' bn' va' bq' vh' tb' tl' td' dw' dd' dt' dy' da' dh' q' tq' h' tk' F' N' l1 l2 q1' q2' kn'; (try dsimp only at N'); (try k_lt l1); (try k_lt2 l2); (try k_sweep); (have f1' := ItemsKnow.isInts kn'); (have f2' := ItemsKnow.len kn'); (have f3' := ItemsKnow.small kn'); (have f4' := ItemsKnow.below kn'); (have f5' := ItemsKnow.least kn'); (have f6' := ItemsKnow.deep kn'); (have p1' := ItemsKnow.pw kn'); (have p2' := ItemsKnow.pd kn'); (have p3' := ItemsKnow.pt kn'); (have p4' := ItemsKnow.py kn'); (have p5' := ItemsKnow.pa kn'); (have p6' := ItemsKnow.ph kn'); (have p7' := ItemsKnow.told kn'); (have p8' := ItemsKnow.all kn'); (have f7' := ItemsKnow.str kn'); (have j9' : JoinSay ms' xd' bn' vt' := ⟨⟩)))
local macro_rules | `(tactic| walk_at "call ref") => `(tactic| (
  k_here; (with_reducible show wpAny _ _ (call (Value.ref 72) _) _ _ _)
  k_dflt (refine' state_use (by k_asm) (by k_asm) (by k_asm) (by k_asm) (by first | exact rfl | assumption) (by k_asm) (by k_mem) (by decide) (by decide) ?_; k_whole)
  intro x' dx' k0' k1' k2' k3' k4' k5' k6' k7' k8' k9' k10' k11' h' tk' F' N' o1' l1'; (try k_sweep); (try clear o1'); (try k_lt2 l1')))
local macro_rules | `(tactic| walk_at "call ref") => `(tactic| (
  k_here; (with_reducible show wpAny _ _ (call (Value.ref 98) _) _ _ _); (rename ItemsKnow .. => kn')
  k_dflt (refine' due_use (by k_asm) (by k_asm) (by k_asm) (by k_asm) (by first | exact rfl | assumption) (by k_asm) (by k_mem) (by k_mem) (ItemsKnow.isInts kn') (ItemsKnow.len kn') (ItemsKnow.deep kn') (ItemsKnow.below kn') (ItemsKnow.str kn') (ItemsKnow.five kn') (by decide) (by decide) ?_; k_whole)
  intro t' l1' l2' vi' vs' vc' ta' tb' tc' h' tk' F' N' o1' lt1' lt2' pi' ps' pc'; (try k_sweep); (try clear o1'); (try k_lt2 lt1'); (try k_lt2 lt2')))
local macro_rules | `(tactic| walk_at "call ref") => `(tactic| (
  k_here; (first | (with_reducible show wpAny _ _ (call (Prod.fst (Value.ref 58, _)) _) _ _ _) | (with_reducible show wpAny _ _ (call (Value.ref 58) _) _ _ _))
  k_dflt (refine' tup_use (by k_asm) (by k_asm) (by k_asm) (by k_asm) (by first | exact rfl | assumption) (by k_asm) (by k_mem) (by k_mem) (by first | assumption | exact ItemsKnow.all (by assumption)) (by decide) (by decide) ?_; k_whole)
  intro t' h' tk' F' N' o1'; (try k_sweep); (try clear o1')))
local macro_rules | `(tactic| walk_at "call ref") => `(tactic| (
  k_here; (first | (with_reducible show wpAny _ _ (call (Prod.fst (Value.ref 44, _)) _) _ _ _) | (with_reducible show wpAny _ _ (call (Value.ref 44) _) _ _ _)); (rename ItemsKnow .. => kn')
  k_dflt (refine' inner_use (by k_asm) (by k_asm) (by k_asm) (by k_asm) (by first | exact rfl | assumption) (by k_asm) (by k_mem) (by k_mem) (by k_mem) (ItemsKnow.isInts kn') (ItemsKnow.len kn') (by decide) (by decide) ?_; k_whole)
  intro v' h' tk' F' N' hv'; (try k_sweep)))
local macro_rules | `(tactic| walk_at "call ref") => `(tactic| (
  k_here; (with_reducible show wpAny _ _ (call (Value.ref 79) _) _ _ _); (rename ItemsKnow .. => kn')
  k_dflt (refine' told_use (by k_asm) (by k_asm) (by k_asm) (by k_asm) (by first | exact rfl | assumption) (by k_asm) (by k_mem) (by k_mem) (by k_mem) (ItemsKnow.isInts kn') (ItemsKnow.len kn') (ItemsKnow.deep kn') (ItemsKnow.below kn') (ItemsKnow.str kn') (ItemsKnow.five kn') (by decide) (by decide) ?_; k_whole)
  intro t' vi' vs' vc' ta' tb' h' tk' F' N' o1' pi' ps' pc'; (try k_sweep); (try clear o1')))
local macro_rules | `(tactic| ktr_rel) => `(tactic| first
  | with_reducible exact RdAll.nil
  | ((with_reducible show RdAll _ (_ :: _) _); (with_reducible apply RdAll.mix) <;> (first | with_reducible (show Mix _ _ _ _; assumption) | ((with_reducible show RdAll _ _ _); ktr_rel)))
  | ((with_reducible show RdAll _ (_ :: _) _); (with_reducible apply RdAll.cons) <;> ktr_rel)
  | with_reducible exact RdN.int
  | with_reducible exact RdN.bool
  | with_reducible exact RdN.none
  | with_reducible exact RdN.at' (PT.at' (by with_reducible assumption))
  | with_reducible exact RdN.at' (by with_reducible assumption)
  | ((with_reducible show RdN _ (Value.ref _) _); exact RdN.tupInts (by k_dflt k_mem) (by with_reducible assumption))
  | with_reducible exact PT.tiny (by with_reducible assumption)
  | with_reducible exact Tiny.none
  | with_reducible exact Tiny.bool _
  | with_reducible exact Tiny.tup (by with_reducible assumption) (by with_reducible assumption)
  | with_reducible exact tiny_inner (by with_reducible assumption)
  | with_reducible exact tiny_deep (by with_reducible assumption)
  | with_reducible assumption
  | ((with_reducible show Tiny (PyData.int _)); (with_reducible refine Tiny.int ?_); omega))
local macro_rules | `(tactic| walk_at "call builtin:repr") => `(tactic| (
  k_here; (with_reducible show wpAny _ _ (call (Value.builtin "repr") [Value.ref _]) _ _ _)
  k_dflt first
    | (refine' repr_tup (by k_asm) (by k_asm) (by k_mem) (by ktr_rel) (by exact Nat.le_of_ble_eq_true rfl) (by exact rfl) (by exact Nat.le_of_ble_eq_true rfl) ?_)
    | (refine' repr_lst (by k_asm) (by k_asm) (by k_mem) (by ktr_rel) (by exact Nat.le_of_ble_eq_true rfl) (by exact rfl) (by exact Nat.le_of_ble_eq_true rfl) ?_)
  intro h' u' tk' F' N'; (try k_sweep)))
local macro_rules | `(tactic| walk_at "compareOp NotEq str str") => `(tactic| (refine ne_same ?_))
local macro_rules | `(tactic| walk_at "call ref") => `(tactic| (
  k_here; (with_reducible show wpAny _ _ (call (Value.ref 86) _) _ _ _); (fail_if_success (rename Pruned => pX')); (rename LapMark _ _ _ _ _ => mk'); (rename ItemsKnow .. => kn'); (rename Fr _ _ _ _ => F'); (rename News _ _ _ _ => nOld')
  k_dflt (refine' prune_use mk' kn' F' nOld' (by exact rfl) (by k_mem) (by k_mem) (by k_mem) (by k_mem) (by k_mem) ?_)
  intro N' pr'; clear nOld'))
local macro_rules | `(tactic| walk_at "callWith ref") => `(tactic| (
  k_here; (with_reducible show wpAny _ _ (callWith _ (Value.ref 61) _ _ _) _ _ _); (fail_if_success (rename PrunedB => pX')); (rename LapMark _ _ _ _ _ => mk'); (rename Fr _ _ _ _ => F'); (rename News _ _ _ _ => nOld')
  k_dflt (refine' pruneB_use mk' (by with_reducible assumption) F' nOld' (by exact rfl) (by k_mem) (by k_mem) (by k_mem) (by k_mem) (by k_mem) ?_)
  intro N' pr'; clear nOld'))
local macro_rules | `(tactic| walk_at "call ref") => `(tactic| (
  k_here; (with_reducible show wpAny _ _ (call (Value.ref 61) [] (List.zip _ _)) _ _ _)
  k_dflt (refine' kw_use2 (by k_asm) (by k_asm) (by k_asm) (by k_asm) (by first | exact rfl | assumption) (by k_asm) (by exact rfl) (by decide) (by decide) ?_; k_whole)
  intro x' dx' k0' k1' k2' k3' k4' k5' k6' k7' k8' k9' k10' k11' h' tk' F' N'; (try k_sweep)))
local macro_rules | `(tactic| walk_at "call ref") => `(tactic| (
  k_here; (first | (with_reducible show wpAny _ _ (call (Value.ref 61) ([] ++ []) []) _ _ _) | (with_reducible show wpAny _ _ (call (Value.ref 61) [] []) _ _ _))
  k_dflt (refine' nothing_use (by k_asm) (by k_asm) (by k_asm) (by k_asm) (by first | exact rfl | assumption) (by k_asm) (by decide) (by decide) ?_; k_whole)
  intro x' dx' k0' k1' k2' k3' k4' k5' k6' k7' k8' k9' k10' k11' h' tk' F' N'; (try k_sweep); (have nh' := nothing_handed)))
local macro_rules | `(tactic| k_handed) => `(tactic| first
  | ((rename ItemsKnow .. => kn'); exact Handed.at' (ItemsKnow.all kn') (by k_mem))
  | ((rename Handed _ => hX'); exact Handed.at' hX' (by k_mem)))
local macro_rules | `(tactic| walk_at "call builtin:len") => `(tactic| (
  k_here; (with_reducible show wpAny _ _ (call (Value.builtin "len") [Value.ref _]) _ _ _)
  k_dflt (refine' len_use (by k_asm) (by k_mem) (by with_reducible assumption) (by with_reducible assumption) ?_)))
local macro_rules | `(tactic| walk_at "compareOp Is") => `(tactic| (
  k_here; (with_reducible show wpAny _ _ (compareOp CmpOp.Is _ Value.none) _ _ _); refine is_none_use (by with_reducible assumption) ?_))
local macro_rules | `(tactic| walk_at "eval BoolOp") => `(tactic| (
  k_here; (rename JoinSay _ _ _ _ => jS')
  k_dflt (refine' boolMark jS' ?w ?_; (case w => (clear jS'; k_steps; all_goals first | exact ValEnd.of (plain_a (by with_reducible assumption)) | exact ValEnd.of (plain_b (by with_reducible assumption)) | exact ValEnd.of (plain_c (by with_reducible assumption)))))
  intro tk'))

local macro_rules | `(tactic| walk_at "subscriptTail Name Slice ref ref") => `(tactic| (
  k_here; (with_reducible show wpAny _ _ (subscriptTail _ (PySem.Expr.Slice _ _ none _) (Value.ref _) (Value.ref _)) _ _ _)
  k_dflt first
    | (refine' cut_upto (by k_asm) (by k_asm) (by k_mem) (by omega) (by (simp only [List.length_cons, List.length_nil]; omega)) (by exact Nat.le_of_ble_eq_true rfl) ?_ (by with_unfolding_all rfl) (by (intro _; with_unfolding_all rfl)))
    | (refine' cut_one (by k_asm) (by k_asm) (by k_mem) (by omega) (by (simp only [List.length_cons, List.length_nil]; omega)) (by exact Nat.le_of_ble_eq_true rfl) (by exact Nat.le_of_ble_eq_true rfl) ?_ (by with_unfolding_all rfl) (by (intro _; with_unfolding_all rfl)))
    | (refine' cut_from (by k_asm) (by k_asm) (by k_mem) (by omega) (by (simp only [List.length_cons, List.length_nil]; omega)) (by exact Nat.le_of_ble_eq_true rfl) ?_ (by with_unfolding_all rfl) (by (intro _; with_unfolding_all rfl)))
  intro D' h' F' N'; (try k_sweep)))
local macro_rules | `(tactic| walk_at "binaryOp Add ref ref") => `(tactic| (
  k_here
  k_dflt (refine' add_use (by k_asm) (by k_asm) (by k_mem) (by k_mem) (by (simp only [List.length_append, List.length_take, List.length_drop, List.length_cons, List.length_nil]; omega)) ?_)
  intro D' h' F' N'; (try k_sweep)))
local macro_rules | `(tactic| walk_at "binaryOp Add ref ref") => `(tactic| (
  k_here
  k_dflt (refine' mix_use (by k_asm) (by k_asm) (by k_mem) (by k_mem) (by omega) (by exact rfl) (by exact rfl) (by with_reducible assumption) (by with_reducible assumption) ?_)
  intro D' w0' w1' w2' w3' w4' w5' w6' w7' w8' w9' w10' w11' h' F' N' mx' hw'; (try k_sweep)))
local macro_rules | `(tactic| walk_at "subscriptTail Name Name ref int") => `(tactic| (
  k_here
  k_dflt (refine' item_use (by k_asm) (by k_mem) (by omega) (by (simp only [List.length_cons, List.length_nil]; omega)) (by exact Nat.le_of_ble_eq_true rfl) ?_ (by with_unfolding_all rfl))
  intro v' hv'))
local macro_rules | `(tactic| walk_at "call builtin:repr") => `(tactic| (
  k_here; (with_reducible show wpAny _ _ (call (Value.builtin "repr") [_]) _ _ _)
  k_dflt (refine' repr_at (by k_asm) (by k_asm) (by with_reducible assumption) (by ktr_rel) (by exact rfl) (by exact Nat.le_of_ble_eq_true rfl) ?_)
  intro h' u' tk' F' N'; (try k_sweep)))
local macro_rules | `(tactic| walk_at "compareOp Eq str str") => `(tactic| (refine eq_texts ?_))
local macro_rules | `(tactic| walk_at "compareOp NotEq bool bool") => `(tactic| (k_here; k_dflt (refine' ne_mix (by omega) (by exact rfl) (by exact rfl) ?_)))
local macro_rules | `(tactic| walk_at "call ref") => `(tactic| (
  k_here; (with_reducible show wpAny _ _ (call (Value.ref 79) _) _ _ _); (fail_if_success (rename ItemsKnow .. => kn'))
  k_dflt (refine' told0_use2 (by k_asm) (by k_asm) (by k_asm) (by k_asm) (by first | exact rfl | assumption) (by k_asm) (by k_mem) (by k_mem) (by decide) (by decide) ?_; k_whole)
  intro t' ta' h' tk' F' N'; (try k_sweep)))
local macro_rules | `(tactic| walk_at "compareOp NotEq ref ref") => `(tactic| (
  k_here
  k_dflt (refine' ne_nothing (by k_asm) (by k_asm) (by k_asm) (by k_mem) (by k_mem) (by k_mem) (by exact Nat.le_of_ble_eq_true rfl) ?_)))
local macro_rules | `(tactic| walk_at "compareOp Eq ref ref") => `(tactic| (
  k_here
  k_dflt (refine' eq_nothing (by k_asm) (by k_asm) (by k_asm) (by k_mem) (by k_mem) (by k_mem) (by exact Nat.le_of_ble_eq_true rfl) ?_)))
local macro_rules | `(tactic| walk_at "pyIter ref") => `(tactic| (
  k_here; (with_reducible show wpAny _ _ (pyIter (Value.ref _)) (fun it s₂ => LoopAtV _ _ _ _ _ (PySem.Str.ofString "lap") _ _ _ it s₂) _ _)
  k_dflt (refine' range_use (by exact rfl) (by assumption) (by omega) (by omega) (by k_asm) (by k_asm) (by k_mem) (by k_mem) (by omega) (by omega) (by exact rfl) ?t ?u)
  (case' t => (intro i' k' t' p' tp' u' h' tk' I' oI' hi' hp0' hp1' ne1' ne2' F' N'; (have mk' := lapMark N')))
  (case' u => (intro p' tp' u' h' tk' F' N'))))

set_option maxRecDepth 100000 in
set_option maxHeartbeats 40000000 in
theorem PySem.Challenge.cw_ok0038_01_holds : PySem.Challenge.rw_ok0038_01.Holds := by
  exact hdA (by
    w_strict (k_go0; (all_goals try k_fold); k_steps
              all_goals exact LapPost.next (lapEnd_of (by assumption) (by assumption) (by k_mem) (by k_mem) (by k_mem) rfl (by omega) (by omega))))
end
