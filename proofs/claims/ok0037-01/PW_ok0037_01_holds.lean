import PyProof.Rows.All
import Wide.All
import OpenK.AllK
import Wide.FinOn
import PySem.Challenge.RW_ok0037_01
open PySem PySem.W PyProof.Rows PySem.Calls
set_option Elab.async false
namespace Mine
set_option maxRecDepth 100000 in
set_option maxHeartbeats 8000000 in
open_top hd for PySem.Challenge.rw_ok0037_01
end Mine
namespace Mine
abbrev PP := PySem.Challenge.rw_ok0037_01.row.prog
section
variable {prog : Program} {w : World} {A : Around} {E : Value → Shared → Prop} {s : Shared} {h₀ : Heap} {L D x : Addr} {m : Str → Option Value} {news news' : List (Addr × Obj)} {n : Nat} {a b : Int} {t u v : Tok}
theorem deck_set {Q : Unit → Shared → Prop} (F : Fr h₀ L s.heap m) (N : News h₀ L s.heap news) (U : Upd D (listOf [.ref x, .int a t].toArray n) (listOf [.ref x, .int b u].toArray n) news news')
    (h : ∀ h', Fr h₀ L h' m → News h₀ L h' news' → Q () { s with heap := h' }) :
    wpAny (model prog w) A (setItem (.ref D) (.int 1 v) (.int b u)) Q E s := by
  obtain ⟨pre, post, rfl, rfl, a', b'⟩ := U.split
  have z := N (D, listOf [.ref x, .int a t].toArray n) (List.mem_append.mpr (.inr (.head _)))
  refine ki_setAt z.1 (by decide) (by decide) (by show 1 < 2; decide) (h _ (F.change (Heap.SameBut.update ..) z.2.1 z.2.2) (ki_turn _ N a' b' ?_ ?_))
  · rfl
  · rfl
end
theorem fmod_lo {a b : Int} (h : 0 < b) : 0 ≤ a.fmod b := by rw [Int.fmod_eq_emod_of_nonneg _ (by omega)]; exact Int.emod_nonneg _ (by omega)
theorem fmod_hi {a b : Int} (h : 0 < b) : a.fmod b < b := by rw [Int.fmod_eq_emod_of_nonneg _ (by omega)]; exact Int.emod_lt_of_pos _ h
abbrev deckO (x : Addr) (n : Int) (t : Tok) (c : Nat) : Obj := listOf [.ref x, .int n t].toArray c
abbrev CTop (mean : ExcName → Option Value) (mg mb : Str → Option Value) (h : Heap) : Prop := Top hd.view_39 (looseW hd.view_39 []) mean mg mb h
section
local macro_rules | `(tactic| walk_at "setItem ref int") => `(tactic| (k_here; (with_reducible show wpAny _ _ (setItem (Value.ref _) (Value.int _ _) (Value.int _ _)) _ _ _); k_dflt (refine' deck_set ?k1 ?k2 ?k3 ?_; (case k1 => k_asm); (case k2 => k_asm); (case k3 => k_upd); k_whole); intro h' F' N'; (try k_sweep)))
local macro_rules | `(tactic| k_all) => `(tactic| assumption)
set_option maxRecDepth 100000 in
set_option maxHeartbeats 8000000 in
theorem draw_walk {w : World} {mean : ExcName → Option Value} {mg mb : Str → Option Value} {dp un : Nat} {gd : Option (List Code)} {cn : Str} {cs : Scope} {a : Addr} {ccd : Value} {cl : List (Str × Addr)} {outer : List Env} {A₀ : Around} {base h₀ : Heap} {L : Addr} {m : Str → Option Value} {s : Shared} {Q E : Value → Shared → Prop}
   {d x : Addr} {n many : Int} {tn tm : Tok} {vs : List Value} {ns : List Int} {cd cx : Nat} {rest : List (Addr × Obj)}
   (B : Below A₀ base outer h₀) (F : Fr h₀ L s.heap m) (X : (hd.heap_39 w.params).In h₀) (N : News h₀ L s.heap ((d, deckO x n tn cd) :: (x, listOf vs.toArray cx) :: rest))
   (T : CTop mean mg mb h₀) (hk : cs.kind = .function) (hdx : ∀ p ∈ (x, listOf vs.toArray cx) :: rest, p.1 ≠ d) (hi : IntsAre vs ns) (hlen : ns.length ≤ 63)
   (h0 : 0 ≤ n) (h1 : n ≤ 1000) (hm0 : 0 < many) (hm1 : many ≤ 100) (hdp : dp + 1 < recursionLimit) (hu : un + 8 < cLine)
   (hret : ∀ (r : Int) (t t2 : Tok) (h' : Heap) (tk' : Nat), 0 ≤ r → r < many → Fr h₀ L h' m → News h₀ L h' ((d, deckO x (n+1) t2 cd) :: (x, listOf vs.toArray cx) :: rest) → Q (.int r t) { s with heap := h', toks := tk' }) :
   wpAny (model PP w) (ktrTop dp un gd cn cs L a ccd cl outer) (call (.ref 110) [.ref d, .int many tm]) Q E s := by
  have hdm : PySem.Challenge.rw_ok0037_01 = PySem.Challenge.rw_ok0037_01 ∧ hd.heap_39 = hd.heap_39 := ⟨rfl, rfl⟩
  revert hdm
  k_fill
  intro _
  refine wpAny_call ?_
  k_dflt cell_enter
  w_top off
  k_steps
  all_goals exact hret _ _ _ _ _ (fmod_lo hm0) (fmod_hi hm0) (by k_asm) (by k_asm)
end
end Mine
namespace Mine
set_option maxRecDepth 100000
section
variable {prog : Program} {w : World} {A₀ A : Around} {s : Shared} {base h₀ : Heap} {outer : List Env} {L : Addr} {m mg mb : Str → Option Value} {env : Env} {pre rest : List (Addr × Obj)} {K : Frag} {p : Program} {loose : List Str} {mean : ExcName → Option Value}
  {R : Result → Shared → Prop} {name qual : Str} {params : Arguments} {body : List Stmt} {scope : Scope} {dV kV doc pm cdv ct oc : Value} {an od : Option Addr} {osl : Array (Option Value)} {f : Addr} {args : Args} {binds : List (Str × Value)}
theorem rest_in {s : Shared} (N : News h₀ L s.heap (pre ++ rest)) (hd : ∀ p ∈ rest, ∀ q ∈ pre, p.1 ≠ q.1) : ∀ p ∈ rest, (hideAll s.heap (pre.map (·.1))).get? p.1 = some p.2 := fun p hp =>
  hideAll_get _ (N p (List.mem_append_right _ hp)).1 fun hm => by
    obtain ⟨q, hq, e⟩ := List.mem_map.mp hm
    exact hd p hp q hq e.symm
theorem enterF (B : Below A₀ base outer h₀) (F : Fr h₀ L s.heap m) (X₀ : K.In h₀) (N : News h₀ L s.heap (pre ++ rest)) (hd : ∀ p ∈ rest, ∀ q ∈ pre, p.1 ≠ q.1) (T : Top p loose mean mg mb h₀) (hA : A.frames = some (env :: outer)) (hf : env.frame = some L) (hke : env.scope.kind = .function)
    (ho : K.lookup f = some ⟨oc, od, .func (fnOf name qual params body scope dV kV doc pm an cdv ct), osl⟩) (hcd : codeIn K cdv qual = true) (hroom : A.depth < recursionLimit)
    (hbind : BindsTo s (fnOf name qual params body scope dV kV doc pm an cdv ct) args binds) (hloc : ∀ y ∈ binds, scope.names.lookup y.1 = some .local)
    (h : ∀ g L' h₁, Fr h₀ L g m → Fr g L' h₁ (fun y => binds.reverse.lookup y) → News g L' h₁ pre → Below A base (env :: outer) g → K.In g → Top p loose mean mg mb g → (∀ p ∈ rest, g.get? p.1 = some p.2) →
      wpAny (model prog w) (A.deeper (envOf qual scope L' f cdv)) (execs body (envOf qual scope L' f cdv))
        (fun fl s' => LeaveK h₀ L m g R (match fl with | .ret v => v | _ => .none) s')
        (fun e s' => wpAny (model prog w) (A.deeper (envOf qual scope L' f cdv)) (leaving (envOf qual scope L' f cdv) e) (fun _ s'' => R (.error e) s'') (fun e' s'' => R (.error e') s'') s')
        { s with heap := h₁, toks := s.toks + binds.length })
    (hco : scope.isCoroutine = false) (hgen : scope.isGenerator = false) (hk : scope.kind = .function)
    (hcell : ∀ x ∈ scope.names, x.2 ≠ .cell) : codeAny (model prog w) A (.call (.ref f) args) R s := by
  have Np : News h₀ L s.heap pre := fun p hp => N p (List.mem_append_left _ hp)
  obtain ⟨FG, BG, st, lv⟩ := groundX (R := R) B F Np hA hf hke
  refine codeAny_call_def (fd := fnOf name qual params body scope dV kV doc pm an cdv ct) (body := body) (binds := binds) hroom ((X₀.keeps F.keep) _ _ ho) rfl (T.nolimit.keeps F.keep) (codeRec_of (X₀.keeps F.keep) hcd) rfl hbind hcell hloc (fun h₁ hns hk₁ => ?_) hco hgen hk
  refine wpAny_mono (h _ s.heap.objs.size h₁ FG ⟨hns, fun b o e => hk₁ b o (of_hideAll _ e), Nat.le_of_eq (hideAll_size _ _)⟩ (fun p hp => ⟨hk₁ _ _ (Np p hp).1, Nat.ne_of_lt (Heap.lt_size (Np p hp).1), hideAll_none _ (List.mem_map_of_mem hp)⟩) BG (X₀.keeps st) (T.keeps st) (rest_in N hd))
    (fun _ s' hl => lv _ _ hl) fun _ _ y => y
theorem enterFC (B : Below A₀ base outer h₀) (F : Fr h₀ L s.heap m) (X₀ : K.In h₀) (N : News h₀ L s.heap (pre ++ rest)) (hd : ∀ p ∈ rest, ∀ q ∈ pre, p.1 ≠ q.1) (T : Top p loose mean mg mb h₀) (hA : A.frames = some (env :: outer)) (hf : env.frame = some L) (hke : env.scope.kind = .function)
    (ho : K.lookup f = some ⟨oc, od, .func (fnOf name qual params body scope dV kV doc pm an cdv ct), osl⟩) (hcd : codeIn K cdv qual = true) (hroom : A.depth < recursionLimit)
    (hbind : BindsTo s (fnOf name qual params body scope dV kV doc pm an cdv ct) args binds) (hkind : (binds.all fun y => scope.names.lookup y.1 == some .local || scope.names.lookup y.1 == some .cell) = true)
    (hnd : ((cellsFrom 0 scope.names []).map (·.1)).Nodup)
    (h : ∀ g L' h₁ tk cells, Fr h₀ L g m → Fr g L' h₁ (bindL (envOfC qual scope L' f cdv).kindOf binds fun _ => none) → News g L' h₁ (cells ++ pre) →
      CellsAre (bindC (envOfC qual scope L' f cdv).kindOf binds fun _ => none) (cellsFrom (L' + 1) scope.names []) cells → Below A base (env :: outer) g → K.In g → Top p loose mean mg mb g → (∀ p ∈ pre, p.1 < L') → (∀ p ∈ rest, g.get? p.1 = some p.2) →
      wpAny (model prog w) (A.deeper (envOfC qual scope L' f cdv)) (execs body (envOfC qual scope L' f cdv))
        (fun fl s' => LeaveK h₀ L m g R (match fl with | .ret v => v | _ => .none) s')
        (fun e s' => wpAny (model prog w) (A.deeper (envOfC qual scope L' f cdv)) (leaving (envOfC qual scope L' f cdv) e) (fun _ s'' => R (.error e) s'') (fun e' s'' => R (.error e') s'') s')
        { s with heap := h₁, toks := tk })
    (hco : scope.isCoroutine = false) (hgen : scope.isGenerator = false) (hk : scope.kind = .function) : codeAny (model prog w) A (.call (.ref f) args) R s := by
  have Np : News h₀ L s.heap pre := fun p hp => N p (List.mem_append_left _ hp)
  obtain ⟨FG, BG, st, lv⟩ := groundX (R := R) B F Np hA hf hke
  refine codeAny_call_function hroom ((X₀.keeps F.keep) _ _ ho) rfl hco hgen rfl (codeRec_of (X₀.keeps F.keep) hcd) (hbind _ _ _ _ ?_)
  refine wpAny_newFunctionEnv_cells hk (kindsX hkind _) fun env' he s' x => ?_
  subst he
  refine ⟨(T.nolimit.keeps F.keep).keeps x.toInCall.keep, codeAny_func ?_⟩
  obtain ⟨h₁, tk, rfl, _⟩ := x.done
  have hk₁ := x.toInCall.keep
  obtain ⟨cells, NC, Y⟩ := Cl.news (h₀ := s.heap) (Nat.le_refl _) fun n c hm => ⟨x.cell n c (lookup_of_mem_nodup (cellsFrom_names scope.names 0 (s.heap.objs.size + 1) [] [] rfl ▸ hnd) hm), x.above n c hm⟩
  refine wpAny_mono (h _ s.heap.objs.size h₁ tk cells FG ⟨x.toInCall.ns, fun b o e => hk₁ b o (of_hideAll _ e), Nat.le_of_eq (hideAll_size _ _)⟩ (fun p hp => ?_) Y BG (X₀.keeps st) (T.keeps st) (fun p hp => Heap.lt_size (Np p hp).1) (rest_in N hd)) (fun _ s' hl => lv _ _ hl) fun _ _ y => y
  rcases List.mem_append.mp hp with hp | hp
  · refine ⟨(NC p hp).1, (NC p hp).2.1, ?_⟩
    cases q : (hideAll s.heap (pre.map (·.1))).get? p.1 with
    | none => rfl
    | some o => have := of_hideAll _ q; rw [(NC p hp).2.2] at this; cases this
  · exact ⟨hk₁ _ _ (Np p hp).1, Nat.ne_of_lt (Heap.lt_size (Np p hp).1), hideAll_none _ (List.mem_map_of_mem hp)⟩
theorem backF {g h' : Heap} {L' : Addr} {m' : Str → Option Value} {news' : List (Addr × Obj)} (N : News h₀ L s.heap (pre ++ rest)) (hg : ∀ p ∈ rest, g.get? p.1 = some p.2) (F' : Fr g L' h' m') (N' : News g L' h' news') (kN : News h₀ L h' news') :
    News h₀ L h' (news' ++ rest) ∧ ∀ p ∈ rest, ∀ q ∈ news', p.1 ≠ q.1 := by
  refine ⟨fun p hp => ?_, fun p hp q hq e => ?_⟩
  · rcases List.mem_append.mp hp with hp | hp
    · exact kN p hp
    · exact ⟨F'.keep _ _ (hg p hp), (N p (List.mem_append_right _ hp)).2⟩
  · have h1 := hg p hp
    have h2 := (N' q hq).2.2
    rw [e, h2] at h1
    cases h1
end
def Ctr (w : World) (mean : ExcName → Option Value) (mg mb : Str → Option Value) (dn un' : Nat) (f : Addr) (args : List Value) (pre : List (Addr × Obj)) (Rest : List (Addr × Obj) → Prop) (Post : Value → List (Addr × Obj) → Prop) : Prop :=
  ∀ (dp un : Nat) (gd : Option (List Code)) (cn : Str) (cs : Scope) (a : Addr) (ccd : Value) (cl : List (Str × Addr)) (outer : List Env) (A₀ : Around) (base h₀ : Heap) (L : Addr) (m : Str → Option Value) (s : Shared) (Q E : Value → Shared → Prop) (rest : List (Addr × Obj)),
    Below A₀ base outer h₀ → Fr h₀ L s.heap m → (hd.heap_39 w.params).In h₀ → News h₀ L s.heap (pre ++ rest) → (∀ p ∈ rest, ∀ q ∈ pre, p.1 ≠ q.1) → Rest rest → CTop mean mg mb h₀ → cs.kind = .function → dp + dn < recursionLimit → un + un' < cLine →
    (∀ (v : Value) (h' : Heap) (tk' : Nat) (news' : List (Addr × Obj)), Post v news' → Fr h₀ L h' m → News h₀ L h' (news' ++ rest) → (∀ p ∈ rest, ∀ q ∈ news', p.1 ≠ q.1) → Q v { s with heap := h', toks := tk' }) →
    wpAny (model PP w) (ktrTop dp un gd cn cs L a ccd cl outer) (call (.ref f) args) Q E s
end Mine
namespace Mine
set_option maxRecDepth 100000
theorem draw_use {w : World} {mean : ExcName → Option Value} {mg mb : Str → Option Value} {dp un : Nat} {gd : Option (List Code)} {cn : Str} {cs : Scope} {a : Addr} {ccd : Value} {cl : List (Str × Addr)} {outer : List Env} {A₀ : Around} {base h₀ : Heap} {L : Addr} {m : Str → Option Value} {s : Shared} {Q E : Value → Shared → Prop}
   {d x : Addr} {n many : Int} {tn tm : Tok} {vs : List Value} {ns : List Int} {cd cx : Nat} {news : List (Addr × Obj)} {g : Obj → List (Addr × Obj)}
   (B : Below A₀ base outer h₀) (F : Fr h₀ L s.heap m) (X : (hd.heap_39 w.params).In h₀) (N : News h₀ L s.heap news)
   (T : CTop mean mg mb h₀) (hk : cs.kind = .function) (U : UpdF d (deckO x n tn cd) news g) (hx : (x, listOf vs.toArray cx) ∈ news) (hdx : @Ne Nat x d) (hi : IntsAre vs ns) (hlen : ns.length ≤ 63)
   (h0 : 0 ≤ n) (h1 : n ≤ 1000) (hm0 : 0 < many) (hm1 : many ≤ 100) (hdp : dp + 1 < recursionLimit) (hu : un + 8 < cLine)
   (hret : ∀ (r : Int) (t t2 : Tok) (h' : Heap) (tk' : Nat), 0 ≤ r → r < many → Fr h₀ L h' m → News h₀ L h' (g (deckO x (n+1) t2 cd)) → Q (.int r t) { s with heap := h', toks := tk' }) :
   wpAny (model PP w) (ktrTop dp un gd cn cs L a ccd cl outer) (call (.ref 110) [.ref d, .int many tm]) Q E s := by
  obtain ⟨own, rest, rfl, hg, a1, a2⟩ := U.split
  refine draw_walk (x := x) (n := n) (tn := tn) (cd := cd) (cx := cx) (rest := own ++ rest) B F X ?_ T hk ?_ hi hlen h0 h1 hm0 hm1 hdp hu ?_
  · exact fun p hp => by
      rcases List.mem_cons.mp hp with rfl | hp
      · exact N _ (by simp)
      · rcases List.mem_cons.mp hp with rfl | hp
        · exact N _ hx
        · exact N _ (by rcases List.mem_append.mp hp with h | h <;> simp [h])
  · intro p hp
    rcases List.mem_cons.mp hp with rfl | hp
    · exact hdx
    · rcases List.mem_append.mp hp with h | h
      · exact a1 p h
      · exact a2 p h
  · intro r t t2 h' tk' r0 r1 F' N'
    refine hret r t t2 h' tk' r0 r1 F' ?_
    rw [hg]
    intro p hp
    exact N' p (by rcases List.mem_append.mp hp with h | h
                   · simp [h]
                   · rcases List.mem_cons.mp h with h | h <;> simp [h])
section
variable {prog : Program} {w : World} {A : Around} {h₀ : Heap} {L : Addr} {m : Str → Option Value} {env : Env} {elt : Expr} {x : Str} {scope : Scope} {cl : List (Str × Addr)} {s : Shared} {S : List (Addr × Obj) → Prop} {P : Nat → Value → Prop} {Fin : List Value → List (Addr × Obj) → Prop}
theorem comp_inv {n : Nat} {news : List (Addr × Obj)} (I : Nat → List Value → List (Addr × Obj) → Prop) (start : I 0 [] news)
    (turn : ∀ i ys news' v Ia oI C oC D m₂ h tk (E' : Value → Shared → Prop), i < n → I i ys news' → P i v → LCg.NsObj oC m₂ → m₂ x = some v → Fr h₀ L h m → News h₀ L h ((Ia, oI) :: (C, oC) :: (D, LCg.lst ys) :: news') → LCg.Off3 Ia C D news' → ((@Ne Nat Ia C) ∧ (@Ne Nat Ia D) ∧ (@Ne Nat C D)) →
      wpAny (model prog w) A (eval elt (compEnvC scope cl C env)) (LCg.CompEnd h₀ L m { s with heap := h, toks := tk } Ia oI C oC D (LCg.lst ys) S (fun y news'' => I (i + 1) (ys ++ [y]) news'')) E' { s with heap := h, toks := tk })
    (fin : ∀ ys news', I n ys news' → Fin ys news') : LCg.CompRest prog w A h₀ L m env elt x scope cl s S P Fin n 0 [] news := by
  have key : ∀ (j i : Nat) (ys : List Value) (news' : List (Addr × Obj)), i + j = n → I i ys news' → LCg.CompRest prog w A h₀ L m env elt x scope cl s S P Fin j i ys news' := by
    intro j
    induction j with
    | zero =>
      intro i ys news' hi hy
      have e : i = n := by omega
      subst e
      exact LCg.CompRest.zero (fin ys news' hy)
    | succ j ih =>
      intro i ys news' hi hy
      refine LCg.CompRest.succ ?_
      intro v Ia oI C oC D m₂ h tk E' hv hC hx F N off ne
      refine wpAny_mono (turn i ys news' v Ia oI C oC D m₂ h tk E' (by omega) hy hv hC hx F N off ne) (fun y s₂ hq => ?_) fun _ _ e => e
      obtain ⟨h', tk', nw, e, F', N', off', hS, hn⟩ := hq
      exact ⟨h', tk', nw, e, F', N', off', hS, ih (i + 1) _ nw (by omega) hn⟩
  exact key n 0 [] news (by omega) start
theorem strs_snoc {y : PySem.Str} {t : Tok} : ∀ {vs : List Value} {ys : List PySem.Str}, StrsAre vs ys → StrsAre (vs ++ [.str y t]) (ys ++ [y])
  | _, _, .nil => .cons y t .nil
  | _, _, .cons z u r => .cons z u (strs_snoc r)
theorem comp_deck {n : Nat} {N0 : Int} {t0 : Tok} {d xa : Addr} {cd : Nat} {news : List (Addr × Obj)} {g : Obj → List (Addr × Obj)} (Good : Str → Prop) (U : UpdF d (deckO xa N0 t0 cd) news g)
    (turn : ∀ (k : Int) (t2 : Tok) v Ia oI C oC D m₂ ys h tk (E' : Value → Shared → Prop), N0 ≤ k → k ≤ N0 + n → LCg.NsObj oC m₂ → m₂ x = some v → Fr h₀ L h m → News h₀ L h ((Ia, oI) :: (C, oC) :: (D, LCg.lst ys) :: g (deckO xa k t2 cd)) → LCg.Off3 Ia C D (g (deckO xa k t2 cd)) → ((@Ne Nat Ia C) ∧ (@Ne Nat Ia D) ∧ (@Ne Nat C D)) →
      wpAny (model prog w) A (eval elt (compEnvC scope cl C env)) (LCg.CompEnd h₀ L m { s with heap := h, toks := tk } Ia oI C oC D (LCg.lst ys) S (fun y news'' => ∃ z tz t2', Good z ∧ y = .str z tz ∧ news'' = g (deckO xa (k + 1) t2' cd))) E' { s with heap := h, toks := tk })
    (fin : ∀ ys zz (k : Int) t2, StrsAre ys zz → zz.length = n → (∀ z ∈ zz, Good z) → N0 ≤ k → k ≤ N0 + n → Fin ys (g (deckO xa k t2 cd))) : LCg.CompRest prog w A h₀ L m env elt x scope cl s S P Fin n 0 [] news := by
  have hg : news = g (deckO xa N0 t0 cd) := by
    obtain ⟨own, rest, e, hg, _, _⟩ := U.split
    rw [hg]; exact e
  subst hg
  refine comp_inv (fun i ys nw => ∃ zz t2, nw = g (deckO xa (N0 + i) t2 cd) ∧ StrsAre ys zz ∧ zz.length = i ∧ ∀ z ∈ zz, Good z) ⟨[], t0, by simp, .nil, rfl, by simp⟩ ?_ ?_
  · rintro i ys news' v Ia oI C oC D m₂ h tk E' hi ⟨zz, t2, rfl, hs, hl, hgood⟩ hv hC hx F N off ne
    refine wpAny_mono (turn (N0 + i) t2 v Ia oI C oC D m₂ ys h tk E' (by omega) (by omega) hC hx F N off ne) (fun y s₂ hq => ?_) fun _ _ e => e
    obtain ⟨h', tk', nw, e, F', N', off', hS, z, tz, t2', hz, rfl, rfl⟩ := hq
    refine ⟨h', tk', _, e, F', N', off', hS, zz ++ [z], t2', ?_, strs_snoc hs, by simp [hl], ?_⟩
    · rw [show N0 + ((i + 1 : Nat) : Int) = N0 + i + 1 by omega]
    · intro q hq
      rcases List.mem_append.mp hq with h | h
      · exact hgood q h
      · rw [List.mem_singleton.mp h]; exact hz
  · rintro ys news' ⟨zz, t2, rfl, hs, hl, hgood⟩
    exact fin ys zz _ t2 hs hl hgood (by omega) (by omega)
end
end Mine
namespace Mine
set_option maxRecDepth 100000
def Stop (P : Prop) : Prop := P
theorem stop_of {P : Prop} (h : Stop P) : P := h
def One (tab : Str) (z : Str) : Prop := ∃ c, c ∈ tab.cps.toList ∧ z = ⟨#[c]⟩
def Over (tab : Str) (p : Str) : Prop := p.cps.size ≤ 3 ∧ ∀ c ∈ p.cps.toList, c ∈ tab.cps.toList
theorem join_empty : ∀ l : List Str, (Str.join (Str.ofString "") l).cps.toList = l.flatMap fun z => z.cps.toList
  | [] => rfl
  | [x] => by simp [Str.join]
  | x :: y :: r => by
    have h := join_empty (y :: r)
    show ((x ++ Str.ofString "") ++ Str.join (Str.ofString "") (y :: r)).cps.toList = _
    rw [Str.cps_append, Array.toList_append, h, Str.cps_append, Array.toList_append]
    have e : (Str.ofString "").cps.toList = [] := by decide +kernel
    rw [e]
    simp
theorem over_join {tab : Str} {zz : List Str} (h : ∀ z ∈ zz, One tab z) (hl : zz.length ≤ 3) : Over tab (PySem.Txt.join (Str.ofString "") zz) := by
  have e : (PySem.Txt.join (Str.ofString "") zz).cps.toList = zz.flatMap fun z => z.cps.toList := by
    show (Builtin.Str.glued (Str.ofString "") zz).cps.toList = _
    rw [StrLaws.glued_eq_join, join_empty]
  constructor
  · rw [← Array.length_toList, e]
    have : ∀ l : List Str, (∀ z ∈ l, One tab z) → (l.flatMap fun z => z.cps.toList).length = l.length := by
      intro l
      induction l with
      | nil => intro _; rfl
      | cons a r ih =>
        intro h
        obtain ⟨c, _, rfl⟩ := h a (by simp)
        rw [List.flatMap_cons, List.length_append, ih fun z hz => h z (by simp [hz])]
        simp; omega
    rw [this zz h]; exact hl
  · intro c hc
    rw [e, List.mem_flatMap] at hc
    obtain ⟨z, hz, hc⟩ := hc
    obtain ⟨c', hc', rfl⟩ := h z hz
    simp at hc
    rw [hc]; exact hc'
theorem one_item {tab : Str} {r : Int} (h0 : 0 ≤ r) (h1 : r < (tab.cps.size : Int)) : One tab (PySem.Txt.item tab r) := by
  obtain ⟨n, hn⟩ := StrLaws.some_at (x := tab) h0 h1
  refine ⟨n, ?_, ?_⟩
  · have := List.mem_of_getElem? (l := tab.cps.toList) (i := r.toNat) (a := n) (by simpa using hn)
    exact this
  · unfold PySem.Txt.item PySem.Txt.charAt
    rw [StrLaws.at_nonneg h0 hn]; rfl
section
variable {prog : Program} {w : World} {A : Around} {E : Value → Shared → Prop} {s : Shared} {t : Tok} {Q : Value → Shared → Prop} {D : Addr} {ys : List Value} {zz : List Str}
theorem join_strs {x : Str} (Bd : Nat) (hl : s.heap.IsList D ys.toArray) (hc : StrsAre ys zz) (hB : ∀ a ∈ zz, a.length ≤ Bd) (hn : zz.length ≤ 1048576) (hs : Bd + x.length ≤ 16)
    (h : ∀ t' k, Q (.str (PySem.Txt.join x zz) t') { s with toks := k }) : wpAny (model prog w) A (call (.builtin "str.join") [.str x t, .ref D]) Q E s := by
  refine KT.join_B (g := fun z => z) (l := zz) Bd hl hc.carried hB hn hs ?_
  rw [List.map_id']
  exact h
end
section
local macro_rules | `(tactic| walk_at "call ref") => `(tactic| (k_here; (with_reducible show wpAny _ _ (call (Value.ref 110) [Value.ref _, Value.int _ _]) _ _ _); k_dflt (refine' draw_use ?k1 ?k2 ?k3 ?k4 ?k5 ?k6 ?kU ?kx ?kd ?ki ?kl ?a0 ?a1 ?b0 ?b1 ?c0 ?c1 ?_; (case k1 => k_asm); (case k2 => k_asm); (case k3 => k_asm); (case k4 => k_asm); (case k5 => k_asm); (case k6 => first | assumption | rfl); (case kU => k_updF); (case kx => k_mem); (case kd => k_ne); (case ki => assumption); (case kl => omega); (case a0 => omega); (case a1 => omega); (case b0 => decide); (case b1 => decide); (case c0 => ktr_room); (case c1 => ktr_units); k_whole); intro r' t' t2' h' tk' hr0 hr1 F' N'; (try dsimp only at N'); (try k_fold)))
local macro_rules | `(tactic| walk_at "CompSrc") => `(tactic| (refine stop_of ?_))
set_option maxHeartbeats 8000000 in
theorem prompt_ctr {w : World} {mean : ExcName → Option Value} {mg mb : Str → Option Value} 
   {d x : Addr} {n : Int} {tn : Tok} {vs : List Value} {ns : List Int} {cd cx : Nat} (hdx : @Ne Nat x d) (hi : IntsAre vs ns) (hlen : ns.length ≤ 63) (h0 : 0 ≤ n) (h1 : n ≤ 900) :
   Ctr w mean mg mb 2 16 115 [.ref d] [(d, deckO x n tn cd), (x, listOf vs.toArray cx)] (fun _ => True) (fun v news' => ∃ p t n' t', v = .str p t ∧ Over (Str.ofString "*p: ^") p ∧ n ≤ n' ∧ n' ≤ n + 4 ∧ news' = [(d, deckO x n' t' cd), (x, listOf vs.toArray cx)]) := by
  unfold Ctr
  intro dp un gd cn cs a ccd cl outer A₀ base h₀ L m s Q E rest B F X N hdis _ T hk hdp hu hret
  have hdm : PySem.Challenge.rw_ok0037_01 = PySem.Challenge.rw_ok0037_01 ∧ hd.heap_39 = hd.heap_39 := ⟨rfl, rfl⟩
  revert hdm
  k_fill
  intro _
  refine wpAny_call ?_
  k_dflt (refine' enterFC ?k1 ?k2 ?k3 ?k4 hdis ?k5 ?kA ?kF ?kK ?k6 ?k7 ?k8 ?k9 ?kB ?kD ?_ ?c2 ?c3 ?c4; (case kA => exact rfl); (case kF => exact rfl); (case kK => assumption); (case k1 => k_asm); (case k2 => k_asm); (case k3 => k_asm); (case k4 => k_asm); (case k5 => k_asm); (case k6 => k_is); (case k7 => k_is); (case k8 => ktr_room); (case k9 => exact BindsTo.of_eq rfl); (case kB => exact rfl); (case kD => decide +kernel); (case c2 => exact rfl); (case c3 => exact rfl); (case c4 => exact rfl); k_whole; intro g' L' h' tk' cells' FG' F' N' Y' B' X' T' l1 hg'; (try k_lt l1); k_cells Y'; (try simp only [List.cons_append, List.nil_append] at N'); (try dsimp only); (try k_lift B'); (try k_fold))
  w_top off
  k_steps
  unfold Stop
  refine LCg.CompSrc.range (by rfl) (by k_asm) (by k_asm) (by assumption) (small_one (by omega) (by omega) (by omega) (by omega)) (rangeSize_nat _ _) (by rw [PySem.sizeLine_eq]; omega) ?_
  intro g''
  refine' comp_deck (d := d) (xa := x) (cd := cd) (One (Str.ofString "*p: ^")) ?kU ?turn ?fin
  case kU => k_updF
  case turn =>
    intro k t2 v Ia oI C oC D m₂ ys h tk E' hk0 hk1 hC hx F5 N5 off ne
    (try dsimp only at N5 off)
    simp only [LCg.Off3, and_true] at off
    (try k_fold)
    k_steps
    exact one_item (by assumption) (by have e5 : (Str.ofString "*p: ^").cps.size = 5 := by decide +kernel
                                       omega)
  case fin =>
    intro ys zz k t2 hz hl hgood hk0 hk1
    dsimp only
    k_steps
    refine join_strs 1 (News.isList (by k_asm) (by k_mem)) hz (fun q hq => by obtain ⟨c, _, rfl⟩ := hgood q hq; exact Nat.le_refl _) (by omega) (by decide) ?_
    intro _ _
    k_steps
    have hsub : ∀ c1 c2 : Addr × Obj, ∀ q ∈ [(d, deckO x k t2 cd), (x, listOf vs.toArray cx)], q ∈ [c1, c2, (d, deckO x k t2 cd), (x, listOf vs.toArray cx)] := by
      intro c1 c2 q hq
      exact .tail _ (.tail _ hq)
    refine' hret _ _ _ _ ⟨_, _, _, _, rfl, over_join hgood (by omega), ?_, ?_, rfl⟩ (by k_asm) ?kN ?kD
    case kN => exact (backF N hg' (by k_asm) (cb_drop (by k_asm) (hsub _ _)) (cb_drop (by k_asm) (hsub _ _))).1
    case kD => exact (backF N hg' (by k_asm) (cb_drop (by k_asm) (hsub _ _)) (cb_drop (by k_asm) (hsub _ _))).2
    all_goals omega
end
end Mine
namespace Mine
def isFlag (c : Nat) : Bool := c == 42 || c == 94 || c == 64
def flagsOf (spec : Str) : Str := ⟨(spec.cps.toList.takeWhile isFlag).toArray⟩
def codesOf (spec : Str) : List (Str × Str) :=
  if Txt.slice spec (some ((flagsOf spec).length : Int)) none = Str.ofString "" then [] else
    (Txt.split (Txt.slice spec (some ((flagsOf spec).length : Int)) none) (Str.ofString "\n")).map fun l => (Txt.slice l none (some 1), Txt.slice l (some 1) none)
theorem len_toList (x : Str) : x.length = x.cps.toList.length := by simp [Str.length]
theorem str_ext {x y : Str} (h : x.cps.toList = y.cps.toList) : x = y := Str.ext' (Array.toList_inj.mp h)
open Builtin Builtin.Str in
theorem idx_hi {a : Nat} {b n : Nat} (hb : n ≤ b) : strSliceIndices (some (a : Int)) (some (b : Int)) 1 n = strSliceIndices (some (a : Int)) (some (n : Int)) 1 n := by
  have h1 : ¬ ((a : Int) < 0) := by omega
  have h2 : ¬ ((b : Int) < 0) := by omega
  have h3 : ¬ ((n : Int) < 0) := by omega
  have e1 : max (0 : Int) (min (b : Int) (n : Int)) = n := by omega
  have e2 : max (0 : Int) (min (n : Int) (n : Int)) = n := by omega
  simp only [strSliceIndices, h1, h2, h3, if_false, e1, e2, show ((1 : Int) > 0) = True from by simp, if_true]
open Builtin Builtin.Str in
theorem idx_lo {a : Nat} {b : Option Int} {n : Nat} (ha : n ≤ a) : strSliceIndices (some (a : Int)) b 1 n = strSliceIndices (some (n : Int)) b 1 n := by
  have h1 : ¬ ((a : Int) < 0) := by omega
  have h3 : ¬ ((n : Int) < 0) := by omega
  have e1 : max (0 : Int) (min (a : Int) (n : Int)) = n := by omega
  have e2 : max (0 : Int) (min (n : Int) (n : Int)) = n := by omega
  simp only [strSliceIndices, h1, h3, if_false, e1, e2, show ((1 : Int) > 0) = True from by simp, if_true]
theorem slice_to (x : Str) (k : Nat) : Txt.slice x none (some (k : Int)) = ⟨(x.cps.toList.take k).toArray⟩ := by
  by_cases h : k ≤ x.length
  · have := StrLaws.sliceText_to (x := x) (j := (k : Int)) ⟨by omega, by rw [← len_toList]; omega⟩
    have e : Txt.slice x none (some (k : Int)) = StrLaws.sliceText x none (some (k : Int)) := rfl
    rw [e, this]
    simp
  · have e : Txt.slice x none (some (k : Int)) = StrLaws.sliceText x none (some (x.length : Int)) := by
      show StrLaws.sliceText x none (some (k : Int)) = _
      unfold StrLaws.sliceText
      rw [StrLaws.sliceIdx_none_lo, StrLaws.sliceIdx_none_lo (some (x.length : Int))]
      have := idx_hi (a := 0) (b := k) (n := x.length) (by omega)
      have this : Builtin.Str.strSliceIndices (some (0 : Int)) (some (k : Int)) 1 x.length = Builtin.Str.strSliceIndices (some (0 : Int)) (some (x.length : Int)) 1 x.length := this
      simp only [this]
    rw [e, StrLaws.sliceText_to ⟨by omega, by rw [← len_toList]; omega⟩]
    apply str_ext
    have hl := len_toList x
    show List.take _ (List.drop 0 x.cps.toList) = List.take k x.cps.toList
    rw [List.drop_zero, List.take_of_length_le (by omega), List.take_of_length_le (by omega)]
theorem slice_from (x : Str) (k : Nat) : Txt.slice x (some (k : Int)) none = ⟨(x.cps.toList.drop k).toArray⟩ := by
  by_cases h : k ≤ x.length
  · have := StrLaws.sliceText_from (x := x) (i := (k : Int)) ⟨by omega, by rw [← len_toList]; omega⟩
    have e : Txt.slice x (some (k : Int)) none = StrLaws.sliceText x (some (k : Int)) none := rfl
    rw [e, this]
    apply str_ext
    have hl := len_toList x
    show List.take _ (List.drop _ x.cps.toList) = List.drop k x.cps.toList
    rw [Int.toNat_natCast, List.take_of_length_le (by rw [List.length_drop]; omega)]
  · have e : Txt.slice x (some (k : Int)) none = StrLaws.sliceText x (some (x.length : Int)) none := by
      show StrLaws.sliceText x (some (k : Int)) none = _
      unfold StrLaws.sliceText
      rw [idx_lo (by omega)]
    rw [e, StrLaws.sliceText_from ⟨by omega, by rw [← len_toList]; omega⟩]
    apply str_ext
    have hl := len_toList x
    show List.take _ (List.drop _ x.cps.toList) = List.drop k x.cps.toList
    rw [List.drop_of_length_le (by omega), List.drop_of_length_le (by omega), List.take_nil]
theorem slice_one (x : Str) (k : Nat) : Txt.slice x (some (k : Int)) (some ((k : Int) + 1)) = ⟨((x.cps.toList.drop k).take 1).toArray⟩ := by
  have hl := len_toList x
  by_cases h : k + 1 ≤ x.length
  · have := StrLaws.sliceText_plain (x := x) (i := (k : Int)) (j := (k : Int) + 1) ⟨by omega, by omega, by omega⟩
    have e : Txt.slice x (some (k : Int)) (some ((k : Int) + 1)) = StrLaws.sliceText x (some (k : Int)) (some ((k : Int) + 1)) := rfl
    rw [e, this]
    have e2 : ((k : Int) + 1 - (k : Int)).toNat = 1 := by omega
    rw [e2]
    simp
  · have e : Txt.slice x (some (k : Int)) (some ((k : Int) + 1)) = StrLaws.sliceText x (some (x.length : Int)) (some (x.length : Int)) := by
      show StrLaws.sliceText x (some (k : Int)) (some ((k : Int) + 1)) = _
      unfold StrLaws.sliceText
      rw [idx_lo (a := k) (by omega)]
      have := idx_hi (a := x.length) (b := k + 1) (n := x.length) (by omega)
      rw [show ((k + 1 : Nat) : Int) = (k : Int) + 1 by omega] at this
      rw [this]
    rw [e, StrLaws.sliceText_plain ⟨by omega, by omega, by omega⟩]
    apply str_ext
    show List.take _ (List.drop _ x.cps.toList) = List.take 1 (List.drop k x.cps.toList)
    rw [List.drop_of_length_le (by omega), List.drop_of_length_le (by omega), List.take_nil, List.take_nil]
theorem tw_end {l : List Nat} {k : Nat} (h : (l.take k).all isFlag = true) (hn : ∀ c, (l.drop k).head? = some c → isFlag c = false) : l.takeWhile isFlag = l.take k := by
  induction l generalizing k with
  | nil => simp
  | cons a r ih =>
    cases k with
    | zero =>
      have := hn a rfl
      simp [List.takeWhile_cons, this]
    | succ k =>
      simp only [List.take_succ_cons, List.all_cons, Bool.and_eq_true] at h
      rw [List.takeWhile_cons, if_pos h.1, List.take_succ_cons, ih h.2 (by simpa using hn)]
theorem take_snoc_all {l : List Nat} {k : Nat} {c : Nat} (h : (l.take k).all isFlag = true) (hc : (l.drop k).head? = some c) (hf : isFlag c = true) : (l.take (k + 1)).all isFlag = true := by
  rw [List.head?_drop] at hc
  rw [List.take_add_one, hc, List.all_append, h]
  simp [hf]
theorem flag_in (c : Nat) : (Builtin.Str.occurrences (Str.ofString "*^@") ⟨#[c]⟩ 0 (Str.ofString "*^@").length 1).isEmpty = !isFlag c := by
  have h := StrLaws.found_one (Str.ofString "*^@") c
  have e : (Str.ofString "*^@").cps.toList = [42, 94, 64] := by decide +kernel
  rw [e] at h
  cases hb : (Builtin.Str.occurrences (Str.ofString "*^@") ⟨#[c]⟩ 0 (Str.ofString "*^@").length 1).isEmpty with
  | true =>
    rw [hb] at h
    have := h.symm
    simp only [Bool.not_true, decide_eq_false_iff_not, List.mem_cons, List.not_mem_nil, or_false, not_or] at this
    simp [isFlag, this]
  | false =>
    rw [hb] at h
    have := h.symm
    simp only [Bool.not_false, decide_eq_true_eq, List.mem_cons, List.not_mem_nil, or_false] at this
    rcases this with rfl | rfl | rfl <;> rfl
theorem empty_str : Str.ofString "" = ⟨#[]⟩ := by decide +kernel
theorem one_or {l : List Nat} (k : Nat) : (l.drop k).take 1 = [] ∧ (l.drop k).head? = none ∨ ∃ c, (l.drop k).take 1 = [c] ∧ (l.drop k).head? = some c := by
  cases l.drop k with
  | nil => exact .inl ⟨rfl, rfl⟩
  | cons a r => exact .inr ⟨a, rfl, rfl⟩
-- the three ends of flags_of's loop
theorem fl_stop0 {spec : Str} {k : Nat} (h : (spec.cps.toList.take k).all isFlag = true) (hs : (Txt.slice spec (some (k : Int)) (some ((k : Int) + 1)) != Str.ofString "") = false) : Txt.slice spec none (some (k : Int)) = flagsOf spec := by
  rw [slice_to]
  rw [slice_one, empty_str] at hs
  unfold flagsOf
  rcases one_or (l := spec.cps.toList) k with ⟨e, e2⟩ | ⟨c, e, e2⟩
  · rw [tw_end h (by intro c hc; rw [e2] at hc; cases hc)]
  · rw [e] at hs
    exact absurd hs (by simp)
theorem fl_stop1 {spec : Str} {k : Nat} (h : (spec.cps.toList.take k).all isFlag = true) (hs : (Txt.slice spec (some (k : Int)) (some ((k : Int) + 1)) != Str.ofString "") = true)
    (ho : (Builtin.Str.occurrences (Str.ofString "*^@") (Txt.slice spec (some (k : Int)) (some ((k : Int) + 1))) 0 (Str.ofString "*^@").length 1).isEmpty = true) : Txt.slice spec none (some (k : Int)) = flagsOf spec := by
  rw [slice_to]
  rw [slice_one, empty_str] at hs
  rw [slice_one] at ho
  unfold flagsOf
  rcases one_or (l := spec.cps.toList) k with ⟨e, e2⟩ | ⟨c, e, e2⟩
  · rw [e] at hs
    exact absurd hs (by simp)
  · rw [e] at ho
    have ho' : (Builtin.Str.occurrences (Str.ofString "*^@") ⟨#[c]⟩ 0 (Str.ofString "*^@").length 1).isEmpty = true := ho
    rw [flag_in] at ho'
    rw [tw_end h (by intro c' hc; rw [e2] at hc; cases hc; simpa using ho')]
theorem fl_go {spec : Str} {k : Nat} (h : (spec.cps.toList.take k).all isFlag = true) (hs : (Txt.slice spec (some (k : Int)) (some ((k : Int) + 1)) != Str.ofString "") = true)
    (ho : (Builtin.Str.occurrences (Str.ofString "*^@") (Txt.slice spec (some (k : Int)) (some ((k : Int) + 1))) 0 (Str.ofString "*^@").length 1).isEmpty = false) : k + 1 ≤ spec.length ∧ (spec.cps.toList.take (k + 1)).all isFlag = true := by
  rw [slice_one, empty_str] at hs
  rw [slice_one] at ho
  rcases one_or (l := spec.cps.toList) k with ⟨e, e2⟩ | ⟨c, e, e2⟩
  · rw [e] at hs
    exact absurd hs (by simp)
  · rw [e] at ho
    have ho' : (Builtin.Str.occurrences (Str.ofString "*^@") ⟨#[c]⟩ 0 (Str.ofString "*^@").length 1).isEmpty = false := ho
    rw [flag_in] at ho'
    refine ⟨?_, take_snoc_all h e2 (by simpa using ho')⟩
    rw [List.head?_drop] at e2
    have := (List.getElem?_eq_some_iff.mp e2).1
    rw [len_toList]; omega
-- split and join
def jl (c : Nat) : List (List Nat) → List Nat
  | [] => []
  | [x] => x
  | x :: y :: r => x ++ c :: jl c (y :: r)
theorem join_jl (c : Nat) : ∀ A : List Str, (Str.join ⟨#[c]⟩ A).cps.toList = jl c (A.map fun z => z.cps.toList)
  | [] => rfl
  | [x] => rfl
  | x :: y :: r => by
    have h := join_jl c (y :: r)
    show ((x ++ (⟨#[c]⟩ : Str)) ++ Str.join ⟨#[c]⟩ (y :: r)).cps.toList = _
    rw [Str.cps_append, Array.toList_append, h, Str.cps_append, Array.toList_append]
    show _ = x.cps.toList ++ c :: jl c ((y :: r).map fun z => z.cps.toList)
    simp
theorem cut_unique {c : Nat} : ∀ {x y u v : List Nat}, c ∉ x → c ∉ y → x ++ c :: u = y ++ c :: v → x = y ∧ u = v
  | [], [], _, _, _, _, h => ⟨rfl, by simpa using h⟩
  | [], b :: y, _, _, _, hy, h => by
    simp only [List.nil_append, List.cons_append, List.cons.injEq] at h
    exact absurd (h.1 ▸ List.mem_cons_self) hy
  | a :: x, [], _, _, hx, _, h => by
    simp only [List.nil_append, List.cons_append, List.cons.injEq] at h
    exact absurd (h.1 ▸ List.mem_cons_self) hx
  | a :: x, b :: y, u, v, hx, hy, h => by
    simp only [List.cons_append, List.cons.injEq] at h
    obtain ⟨e1, e2⟩ := cut_unique (fun m => hx (.tail _ m)) (fun m => hy (.tail _ m)) h.2
    exact ⟨by rw [h.1, e1], e2⟩
theorem jl_inj {c : Nat} : ∀ {A B : List (List Nat)}, A ≠ [] → B ≠ [] → (∀ x ∈ A, c ∉ x) → (∀ x ∈ B, c ∉ x) → jl c A = jl c B → A = B
  | [], _, h, _, _, _, _ => absurd rfl h
  | _, [], _, h, _, _, _ => absurd rfl h
  | [x], [y], _, _, _, _, h => by rw [show x = y from h]
  | [x], y :: z :: r, _, _, hA, _, h => by
    have h' : x = y ++ c :: jl c (z :: r) := h
    exact absurd (h' ▸ List.mem_append_right _ List.mem_cons_self) (hA x List.mem_cons_self)
  | x :: z :: r, [y], _, _, _, hB, h => by
    have h' : x ++ c :: jl c (z :: r) = y := h
    exact absurd (h' ▸ List.mem_append_right _ List.mem_cons_self) (hB y List.mem_cons_self)
  | x :: z :: r, y :: z' :: r', _, _, hA, hB, h => by
    obtain ⟨e1, e2⟩ := cut_unique (hA x List.mem_cons_self) (hB y List.mem_cons_self) h
    have := jl_inj (A := z :: r) (B := z' :: r') (by simp) (by simp) (fun q hq => hA q (.tail _ hq)) (fun q hq => hB q (.tail _ hq)) e2
    rw [e1, this]
theorem nl_str : Str.ofString "\n" = ⟨#[10]⟩ := by decide +kernel
theorem split_join {A : List Str} (hA : A ≠ []) (hf : ∀ z ∈ A, 10 ∉ z.cps.toList) : Txt.split (Txt.join (Str.ofString "\n") A) (Str.ofString "\n") = A := by
  rw [nl_str]
  have e1 : Txt.join ⟨#[10]⟩ A = Str.join ⟨#[10]⟩ A := StrLaws.glued_eq_join _ _
  rw [e1]
  have h1 := StrLaws.join_split (Str.join ⟨#[10]⟩ A) ⟨#[10]⟩
  have h2 := StrLaws.split_free (Str.join ⟨#[10]⟩ A) 10
  have h3 := split_pos (Str.join ⟨#[10]⟩ A) ⟨#[10]⟩
  generalize Txt.split (Str.join ⟨#[10]⟩ A) ⟨#[10]⟩ = S at h1 h2 h3
  have h4 := congrArg (fun z : Str => z.cps.toList) h1
  simp only [join_jl] at h4
  have h5 := jl_inj (c := 10) (by intro e; rw [List.map_eq_nil_iff] at e; rw [e] at h3; simp at h3) (by intro e; rw [List.map_eq_nil_iff] at e; exact hA e)
    (by intro x hx; obtain ⟨z, hz, rfl⟩ := List.mem_map.mp hx; exact h2 z hz) (by intro x hx; obtain ⟨z, hz, rfl⟩ := List.mem_map.mp hx; exact hf z hz) h4
  have inj : ∀ (S A : List Str), S.map (fun z => z.cps.toList) = A.map (fun z => z.cps.toList) → S = A := by
    intro S
    induction S with
    | nil => intro A h; cases A with
      | nil => rfl
      | cons a r => simp at h
    | cons s r ih =>
      intro A h
      cases A with
      | nil => simp at h
      | cons a q =>
        simp only [List.map_cons, List.cons.injEq] at h
        rw [str_ext (x := s) (y := a) h.1, ih q h.2]
  exact inj S A h5
def GoodPair (q : Str × Str) : Prop := (∃ k, q.1 = ⟨#[k]⟩ ∧ k ≠ 10 ∧ 10 ∉ q.2.cps.toList) ∨ (q.1 = Str.ofString "" ∧ q.2 = Str.ofString "")
def GoodPairs (ps : List (Str × Str)) : Prop := (∀ q ∈ ps, GoodPair q) ∧ ∀ q r, ps = q :: r → ∃ k, q.1 = ⟨#[k]⟩ ∧ isFlag k = false
def specOf (f : Str) (ps : List (Str × Str)) : Str := f ++ Txt.join (Str.ofString "\n") (ps.map fun q => q.1 ++ q.2)
theorem join_head {c : Nat} {x : Str} {k : Nat} {r : List Str} (hx : x.cps.toList.head? = some k) : (Str.join ⟨#[c]⟩ (x :: r)).cps.toList.head? = some k := by
  rw [join_jl]
  cases r with
  | nil => exact hx
  | cons y r =>
    show (x.cps.toList ++ c :: jl c ((y :: r).map fun z => z.cps.toList)).head? = some k
    rw [List.head?_append, hx]; rfl
theorem rest_head {ps : List (Str × Str)} (h : GoodPairs ps) : ps = [] ∧ (Txt.join (Str.ofString "\n") (ps.map fun q => q.1 ++ q.2)) = Str.ofString "" ∨ ps ≠ [] ∧ ∃ k, (Txt.join (Str.ofString "\n") (ps.map fun q => q.1 ++ q.2)).cps.toList.head? = some k ∧ isFlag k = false := by
  cases ps with
  | nil => exact .inl ⟨rfl, by rw [empty_str]; rfl⟩
  | cons q r =>
    obtain ⟨k, hk, hf⟩ := h.2 q r rfl
    refine .inr ⟨by simp, k, ?_, hf⟩
    have e1 : Txt.join (Str.ofString "\n") ((q :: r).map fun q => q.1 ++ q.2) = Str.join ⟨#[10]⟩ ((q :: r).map fun q => q.1 ++ q.2) := by rw [nl_str]; exact StrLaws.glued_eq_join _ _
    rw [e1, List.map_cons]
    refine join_head ?_
    rw [Str.cps_append, hk, Array.toList_append]
    rfl
theorem flags_spec {f : Str} {ps : List (Str × Str)} (hf : ∀ c ∈ f.cps.toList, isFlag c = true) (h : GoodPairs ps) : flagsOf (specOf f ps) = f := by
  unfold flagsOf specOf
  apply str_ext
  rw [Str.cps_append, Array.toList_append]
  show List.takeWhile _ _ = _
  have e : ∀ (a b : List Nat), (∀ c ∈ a, isFlag c = true) → (∀ c, b.head? = some c → isFlag c = false) → (a ++ b).takeWhile isFlag = a := by
    intro a b ha hb
    have h1 := tw_end (l := a ++ b) (k := a.length) (by rw [List.take_left]; exact List.all_eq_true.mpr ha) (by rw [List.drop_left]; exact hb)
    rw [h1, List.take_left]
  refine e _ _ hf ?_
  rcases rest_head h with ⟨_, e⟩ | ⟨_, k, e, hk⟩
  · rw [e, empty_str]; intro c hc; cases hc
  · intro c hc; rw [e] at hc; cases hc; exact hk
theorem codes_spec {f : Str} {ps : List (Str × Str)} (hf : ∀ c ∈ f.cps.toList, isFlag c = true) (h : GoodPairs ps) : codesOf (specOf f ps) = ps := by
  unfold codesOf
  rw [flags_spec hf h]
  have e0 : Txt.slice (specOf f ps) (some (f.length : Int)) none = Txt.join (Str.ofString "\n") (ps.map fun q => q.1 ++ q.2) := by
    rw [slice_from]
    apply str_ext
    show List.drop _ (specOf f ps).cps.toList = _
    unfold specOf
    rw [Str.cps_append, Array.toList_append, len_toList, List.drop_left]
  rw [e0]
  rcases rest_head h with ⟨e, e'⟩ | ⟨hne, k, e, hk⟩
  · rw [if_pos e', e]
  · rw [if_neg (by intro e'; rw [e', empty_str] at e; cases e), split_join (by simpa using hne) ?_]
    · rw [List.map_map]
      have : ∀ q ∈ ps, ((fun l => (Txt.slice l none (some 1), Txt.slice l (some 1) none)) ∘ fun q : Str × Str => q.1 ++ q.2) q = q := by
        rintro ⟨c, p⟩ hq
        have s1 := slice_to (c ++ p) 1
        have s2 := slice_from (c ++ p) 1
        show (Txt.slice (c ++ p) none (some 1), Txt.slice (c ++ p) (some 1) none) = (c, p)
        have s1 : Txt.slice (c ++ p) none (some 1) = _ := s1
        have s2 : Txt.slice (c ++ p) (some 1) none = _ := s2
        rw [s1, s2]
        rcases h.1 _ hq with ⟨k, e1, _, _⟩ | ⟨e1, e2⟩
        · have e1 : c = ⟨#[k]⟩ := e1
          subst e1
          refine Prod.ext (str_ext ?_) (str_ext ?_)
          · show List.take 1 ((⟨#[k]⟩ : Str) ++ p).cps.toList = [k]
            rw [Str.cps_append, Array.toList_append]; rfl
          · show List.drop 1 ((⟨#[k]⟩ : Str) ++ p).cps.toList = p.cps.toList
            rw [Str.cps_append, Array.toList_append]; rfl
        · have e1 : c = Str.ofString "" := e1
          have e2 : p = Str.ofString "" := e2
          subst e1; subst e2
          decide +kernel
      rw [List.map_congr_left this, List.map_id']
    · intro z hz
      obtain ⟨q, hq, rfl⟩ := List.mem_map.mp hz
      rw [Str.cps_append, Array.toList_append]
      rcases h.1 _ hq with ⟨k, e1, h1, h2⟩ | ⟨e1, e2⟩
      · rw [e1]
        simp only [List.mem_append, not_or]
        exact ⟨by simpa using fun e => h1 e.symm, h2⟩
      · rw [e1, e2]; decide +kernel
end Mine
namespace Mine
set_option maxRecDepth 100000
section
local macro_rules | `(tactic| walk_at "exec While BoolOp cons nil") => `(tactic| (refine stop_of ?_))
set_option maxHeartbeats 8000000 in
theorem flags_of_ctr {w : World} {mean : ExcName → Option Value} {mg mb : Str → Option Value} 
   {spec : Str} {ts : Tok} (hlen : spec.length ≤ 1000) :
   Ctr w mean mg mb 1 8 42 [.str spec ts] [] (fun _ => True) (fun v news' => ∃ t', v = .str (flagsOf spec) t' ∧ news' = []) := by
  unfold Ctr
  intro dp un gd cn cs a ccd cl outer A₀ base h₀ L m s Q E rest B F X N hdis _ T hk hdp hu hret
  have hdm : PySem.Challenge.rw_ok0037_01 = PySem.Challenge.rw_ok0037_01 ∧ hd.heap_39 = hd.heap_39 := ⟨rfl, rfl⟩
  revert hdm
  k_fill
  intro _
  refine wpAny_call ?_
  k_dflt (refine' enterF ?k1 ?k2 ?k3 ?k4 hdis ?k5 ?kA ?kF ?kK ?k6 ?k7 ?k8 ?k9 ?kB ?_ ?c2 ?c3 ?c4 ?c5; (case kA => exact rfl); (case kF => exact rfl); (case kK => assumption); (case k1 => k_asm); (case k2 => k_asm); (case k3 => k_asm); (case k4 => k_asm); (case k5 => k_asm); (case k6 => k_is); (case k7 => k_is); (case k8 => ktr_room); (case k9 => exact BindsTo.of_eq rfl); (case c5 => decide); (case kB => exact locs rfl); (case c2 => exact rfl); (case c3 => exact rfl); (case c4 => exact rfl); k_whole; intro g' L' h' FG' F' N' B' X' T' hg'; (try dsimp only); (try k_lift B'); (try k_fold))
  w_top off
  k_steps
  unfold Stop
  refine' ksw_while (σ := Nat × Tok) (fun _ => []) (fun c => [(Str.ofString "at", .int c.1 c.2)]) (fun _ => True) [] (fun c => c.1 ≤ spec.length ∧ ((spec.cps.toList.take c.1).all isFlag) = true) (fun c => spec.length - c.1) (0, _) (by k_asm) (by k_asm) trivial ?ka ⟨Nat.zero_le _, by simp⟩ ?turn
  case ka => intro p hp; rw [List.mem_singleton.mp hp]; rfl
  case turn =>
    rintro ⟨k, tkk⟩ u h tk _ ⟨hk0, hk1⟩ F5 N5
    dsimp only at F5 hk0 hk1
    (try k_fold)
    k_steps
    · refine' hret _ _ _ _ ⟨_, congrArg (Value.str · _) (fl_stop1 hk1 (by assumption) (by assumption)), rfl⟩ (by k_asm) ?kN ?kD
      case kN => exact (backF (pre := []) N hg' (by k_asm) (by k_asm) (by k_asm)).1
      case kD => exact (backF (pre := []) N hg' (by k_asm) (by k_asm) (by k_asm)).2
    · have hgo := fl_go hk1 (by assumption) (by assumption)
      refine' ksw_end (k + 1, _) (by k_asm) (by k_asm) (by intro p hp; cases hp) trivial ?ka ?kr hgo (by show spec.length - (k + 1) < spec.length - k; omega)
      case ka =>
        intro p hp
        rw [List.mem_singleton.mp hp]
        rfl
      case kr =>
        intro z h2 _
        have hz : z ≠ Str.ofString "at" := h2 _ List.mem_cons_self
        simp [kstB, hz]
    · refine' hret _ _ _ _ ⟨_, congrArg (Value.str · _) (fl_stop0 hk1 (by assumption)), rfl⟩ (by k_asm) ?kN ?kD
      case kN => exact (backF (pre := []) N hg' (by k_asm) (by k_asm) (by k_asm)).1
      case kD => exact (backF (pre := []) N hg' (by k_asm) (by k_asm) (by k_asm)).2
end
end Mine
namespace Mine
set_option maxRecDepth 100000
theorem flags_of_use {w : World} {mean : ExcName → Option Value} {mg mb : Str → Option Value} {dp un : Nat} {gd : Option (List Code)} {cn : Str} {cs : Scope} {a : Addr} {ccd : Value} {cl : List (Str × Addr)} {outer : List Env} {A₀ : Around} {base h₀ : Heap} {L : Addr} {m : Str → Option Value} {s : Shared} {Q E : Value → Shared → Prop}
   {spec : Str} {ts : Tok} {news : List (Addr × Obj)}
   (B : Below A₀ base outer h₀) (F : Fr h₀ L s.heap m) (X : (hd.heap_39 w.params).In h₀) (N : News h₀ L s.heap news)
   (T : CTop mean mg mb h₀) (hk : cs.kind = .function) (hlen : spec.length ≤ 1000) (hdp : dp + 1 < recursionLimit) (hu : un + 8 < cLine)
   (hret : ∀ (t : Tok) (h' : Heap) (tk' : Nat), (flagsOf spec).length ≤ 1000 → Fr h₀ L h' m → News h₀ L h' news → Q (.str (flagsOf spec) t) { s with heap := h', toks := tk' }) :
   wpAny (model PP w) (ktrTop dp un gd cn cs L a ccd cl outer) (call (.ref 42) [.str spec ts]) Q E s := by
  refine flags_of_ctr hlen dp un gd cn cs a ccd cl outer A₀ base h₀ L m s Q E news B F X N (by simp) trivial T hk hdp hu ?_
  rintro v h' tk' news' ⟨t, rfl, rfl⟩ F' N' _
  refine hret t h' tk' ?_ F' N'
  have : (flagsOf spec).length ≤ spec.length := by
    rw [len_toList, len_toList]
    show (spec.cps.toList.takeWhile isFlag).length ≤ _
    exact (List.takeWhile_prefix _).length_le
  omega
section
variable {prog : Program} {w : World} {A : Around} {h₀ : Heap} {L : Addr} {m : Str → Option Value} {env : Env} {elt : Expr} {x : Str} {scope : Scope} {cl : List (Str × Addr)} {s : Shared} {Fin : List Value → List (Addr × Obj) → Prop}
theorem sub_rot {α : Type} {a b c t s : α} {r : List α} : ∀ p ∈ a :: b :: c :: s :: t :: r, p ∈ t :: a :: b :: c :: s :: r := by
  intro p hp
  simp only [List.mem_cons] at hp ⊢
  rcases hp with h | h | h | h | h | h <;> simp [h]
theorem pairDat_snoc (a : List (Str × Str)) (b : Str × Str) : (a ++ [b]).map (fun q => Dat.tuple [Dat.str q.1, Dat.str q.2]) = a.map (fun q => Dat.tuple [Dat.str q.1, Dat.str q.2]) ++ [Dat.tuple [Dat.str b.1, Dat.str b.2]] := by simp
theorem comp_lines {ax : Addr} {vals : List Value} {ls : List Str} {k0 : Nat} (f : Str → Str × Str) (hs : StrsAre vals ls)
    (turn : ∀ (z : Str) tz Ia oI C oC D m₂ ys tups h tk (E' : Value → Shared → Prop), z ∈ ls → LCg.NsObj oC m₂ → m₂ x = some (.str z tz) → Fr h₀ L h m → News h₀ L h ((Ia, oI) :: (C, oC) :: (D, LCg.lst ys) :: (ax, ({ cls := .type "list", data := .seq vals.toArray k0 } : Obj)) :: tups) → LCg.Off3 Ia C D ((ax, ({ cls := .type "list", data := .seq vals.toArray k0 } : Obj)) :: tups) → ((@Ne Nat Ia C) ∧ (@Ne Nat Ia D) ∧ (@Ne Nat C D)) →
      wpAny (model prog w) A (eval elt (compEnvC scope cl C env)) (LCg.CompEnd h₀ L m { s with heap := h, toks := tk } Ia oI C oC D (LCg.lst ys) (LCg.SrcAt h₀ ax vals.toArray) (fun y news'' => ∃ T n ta tb, y = Value.ref T ∧ news'' = (ax, ({ cls := .type "list", data := .seq vals.toArray k0 } : Obj)) :: (T, ({ cls := .type "tuple", data := .seq [Value.str (f z).1 ta, Value.str (f z).2 tb].toArray n } : Obj)) :: tups)) E' { s with heap := h, toks := tk })
    (fin : ∀ ys tups, DatAll tups ys ((ls.map f).map fun q => Dat.tuple [Dat.str q.1, Dat.str q.2]) → Fin ys ((ax, ({ cls := .type "list", data := .seq vals.toArray k0 } : Obj)) :: tups)) :
    LCg.CompRest prog w A h₀ L m env elt x scope cl s (LCg.SrcAt h₀ ax vals.toArray) (fun i v => vals.toArray[i]? = some v) Fin vals.toArray.size 0 [] [(ax, ({ cls := .type "list", data := .seq vals.toArray k0 } : Obj))] := by
  have hlen : vals.length = ls.length := by
    clear turn fin
    induction hs with
    | nil => rfl
    | cons y t _ ih => simp [ih]
  have hget : ∀ (vs : List Value) (zs : List Str), StrsAre vs zs → ∀ (i : Nat) (v : Value), vs[i]? = some v → ∃ z t, zs[i]? = some z ∧ v = Value.str z t := by
    intro vs zs hh
    induction hh with
    | nil => intro i v h; simp at h
    | cons y t _ ih =>
      intro i v h
      cases i with
      | zero => simp at h; exact ⟨y, t, rfl, h.symm⟩
      | succ i => simpa using ih i v (by simpa using h)
  refine comp_inv (fun i ys nw => ∃ tups, nw = (ax, ({ cls := .type "list", data := .seq vals.toArray k0 } : Obj)) :: tups ∧ DatAll tups ys (((ls.take i).map f).map fun q => Dat.tuple [Dat.str q.1, Dat.str q.2])) ⟨[], rfl, by simpa using DatAll.nil⟩ ?_ ?_
  · rintro i ys news' v Ia oI C oC D m₂ h tk E' hi ⟨tups, rfl, hd⟩ hv hC hx F N off ne
    obtain ⟨z, t, hz, rfl⟩ := hget vals ls hs i v (by simpa using hv)
    refine wpAny_mono (turn z t Ia oI C oC D m₂ ys tups h tk E' (List.mem_of_getElem? hz) hC hx F N off ne) (fun y s₂ hq => ?_) fun _ _ e => e
    obtain ⟨h', tk', nw, e, F', N', off', hS, T, n, ta, tb, rfl, rfl⟩ := hq
    refine ⟨h', tk', _, e, F', N', off', hS, _, rfl, ?_⟩
    rw [List.take_add_one, hz, Option.toList_some, List.map_append, List.map_singleton, pairDat_snoc]
    refine DatAll.append (DatAll.mono (fun p hp => .tail _ hp) hd) (DatAll.one (.tuple (.head _) ?_))
    exact .cons (.str _ _) (.cons (.str _ _) .nil)
  · rintro ys news' ⟨tups, rfl, hd⟩
    rw [List.size_toArray, hlen, List.take_length] at hd
    exact fin ys tups hd
end
def pairDat (ps : List (Str × Str)) : List Dat := ps.map fun q => Dat.tuple [Dat.str q.1, Dat.str q.2]
section
local macro_rules | `(tactic| walk_at "call ref") => `(tactic| (k_here; (with_reducible show wpAny _ _ (call (Value.ref 42) [Value.str _ _]) _ _ _); k_dflt (refine' flags_of_use ?k1 ?k2 ?k3 ?k4 ?k5 ?k6 ?kl ?c0 ?c1 ?_; (case k1 => k_asm); (case k2 => k_asm); (case k3 => k_asm); (case k4 => k_asm); (case k5 => k_asm); (case k6 => first | assumption | rfl); (case kl => first | assumption | omega); (case c0 => ktr_room); (case c1 => ktr_units); k_whole); intro t' h' tk' hfl' F' N'; (try k_fold)))
local macro_rules | `(tactic| walk_at "CompSrc") => `(tactic| (refine stop_of ?_))
set_option maxHeartbeats 8000000 in
theorem codes_of_ctr {w : World} {mean : ExcName → Option Value} {mg mb : Str → Option Value} 
   {spec : Str} {ts : Tok} (hlen : spec.length ≤ 1000) :
   Ctr w mean mg mb 2 16 47 [.str spec ts] [] (fun _ => True) (fun v news' => ∃ l vs cap tups, v = .ref l ∧ news' = (l, listOf vs.toArray cap) :: tups ∧ DatAll tups vs (pairDat (codesOf spec))) := by
  unfold Ctr
  intro dp un gd cn cs a ccd cl outer A₀ base h₀ L m s Q E rest B F X N hdis _ T hk hdp hu hret
  have hdm : PySem.Challenge.rw_ok0037_01 = PySem.Challenge.rw_ok0037_01 ∧ hd.heap_39 = hd.heap_39 := ⟨rfl, rfl⟩
  revert hdm
  k_fill
  intro _
  refine wpAny_call ?_
  k_dflt (refine' enterF ?k1 ?k2 ?k3 ?k4 hdis ?k5 ?kA ?kF ?kK ?k6 ?k7 ?k8 ?k9 ?kB ?_ ?c2 ?c3 ?c4 ?c5; (case kA => exact rfl); (case kF => exact rfl); (case kK => assumption); (case k1 => k_asm); (case k2 => k_asm); (case k3 => k_asm); (case k4 => k_asm); (case k5 => k_asm); (case k6 => k_is); (case k7 => k_is); (case k8 => ktr_room); (case k9 => exact BindsTo.of_eq rfl); (case c5 => decide); (case kB => exact locs rfl); (case c2 => exact rfl); (case c3 => exact rfl); (case c4 => exact rfl); k_whole; intro g' L' h' FG' F' N' B' X' T' hg'; (try dsimp only); (try k_lift B'); (try k_fold))
  w_top off
  k_steps
  · refine' hret _ _ _ _ ⟨_, [], 0, [], rfl, rfl, ?_⟩ (by k_asm) ?kN ?kD
    case kN => exact (backF (pre := []) N hg' (by k_asm) (by k_asm) (by k_asm)).1
    case kD => exact (backF (pre := []) N hg' (by k_asm) (by k_asm) (by k_asm)).2
    have hc : codesOf spec = [] := by
      unfold codesOf
      rw [if_pos (eq_of_beq (by assumption))]
    rw [hc]
    exact .nil
  · rename StrsAre _ _ => hS
    rename List.map _ _ = Txt.split _ _ => hsp
    rename (_ == _) = false => hne
    rename ∀ a : Str, a ∈ _ → _ => hshort
    have hlong := congrArg List.length hsp
    have hle := split_le (Txt.slice spec (some ((flagsOf spec).length : Int)) none) (Str.ofString "\n")
    have hc : codesOf spec = (Txt.split (Txt.slice spec (some ((flagsOf spec).length : Int)) none) (Str.ofString "\n")).map fun l => (Txt.slice l none (some 1), Txt.slice l (some 1) none) := by
      unfold codesOf
      rw [if_neg (by intro e; rw [e] at hne; exact absurd hne (by decide +kernel))]
    rw [← hsp] at hc
    unfold Stop
    refine LCg.CompSrc.ledger (by rfl) (by k_asm) (by k_asm) (.head _) (by rw [PySem.sizeLine_eq]; simp [strValues]; simp at hlong; omega) ?_
    intro g''
    refine comp_lines (fun l => (Txt.slice l none (some 1), Txt.slice l (some 1) none)) hS ?turn ?fin
    case turn =>
      intro z tz Ia oI C oC D m₂ ys tups h tk E' hz hC hx F5 N5 off ne
      have hzl := hshort z hz
      have hzl : z.length ≤ 1000 := by omega
      simp only [LCg.Off3, and_true] at off
      (try k_fold)
      k_steps
      refine' LCg.CompEnd.intro (by k_asm) (by k_asm) _ ?sub ?off (.inr ⟨_, .head _, rfl, _, rfl⟩) ⟨_, _, _, _, rfl, rfl⟩
      case sub => exact sub_rot
      case off => exact ⟨off.1, ⟨by k_ne, by k_ne, by k_ne⟩, off.2⟩
    case fin =>
      intro ys tups hd
      dsimp only
      k_steps
      have hsub : ∀ (c1 c2 : Addr × Obj), ∀ q ∈ c1 :: tups, q ∈ c1 :: c2 :: tups := by
        intro c1 c2 q hq
        rcases List.mem_cons.mp hq with rfl | h
        · exact .head _
        · exact .tail _ (.tail _ h)
      refine' hret _ _ _ _ ⟨_, _, _, _, rfl, rfl, ?kd⟩ (by k_asm) ?kN ?kD
      case kd => unfold pairDat; rw [hc]; exact hd
      case kN => exact (backF (pre := []) N hg' (by k_asm) (cb_drop (by k_asm) (hsub _ _)) (cb_drop (by k_asm) (hsub _ _))).1
      case kD => exact (backF (pre := []) N hg' (by k_asm) (cb_drop (by k_asm) (hsub _ _)) (cb_drop (by k_asm) (hsub _ _))).2
end
end Mine
namespace Mine
set_option maxRecDepth 100000
def known : Str := Str.ofString "pPdmrei" ++ Str.ofString "ck" ++ Str.ofString "sMnNbBfFCaSvxDGUXzZK"
def bad (c : Str) : Bool := c == Str.ofString "" || (Builtin.Str.occurrences known c 0 known.length 1).isEmpty
def firstWrong : List (Str × Str) → Option Str
  | [] => none
  | q :: r => if bad q.1 = true then some q.1 else firstWrong r
section
variable {prog : Program} {w : World} {A : Around} {E : Value → Shared → Prop} {s : Shared} {env : Env} {h₀ : Heap} {target : Expr} {body : List Stmt} {Q : Flow → Shared → Prop}
theorem items_pairs {I ax : Addr} {lo : Obj} {tups : List (Addr × Obj)} (R : Option Str) (hI : ∀ p ∈ (ax, lo) :: tups, p.1 < I)
    (turn : ∀ (c p : Str) tc tp T n m h tk oI (rest : (Str → Option Value) → List (Addr × Obj) → Prop), oI.cls = .type "list_iterator" → IsTup h T #[.str c tc, .str p tp] → (T, ({ cls := .type "tuple", data := .seq [.str c tc, .str p tp].toArray n } : Obj)) ∈ tups → Fr h₀ env.locals h m → News h₀ env.locals h ((I, oI) :: (ax, lo) :: tups) → (bad c = true → R = some c) → (∀ m', bad c = false → rest m' ((ax, lo) :: tups)) →
      wpAny (model prog w) A (assign target env (.ref T)) (fun _ s₂ => wpAny (model prog w) A (execs body env) (UnrPostW h₀ env.locals { s with heap := h, toks := tk } [(I, oI)] rest Q) E s₂) E { s with heap := h, toks := tk })
    (done : R = none → ∀ m h tk, Fr h₀ env.locals h m → News h₀ env.locals h ((ax, lo) :: tups) → Q .next { s with heap := h, toks := tk }) :
    ∀ (ps : List (Str × Str)) (vs : List Value) (m : Str → Option Value), DatAll tups vs (pairDat ps) → firstWrong ps = R →
      ItemsRest prog w A E h₀ env target body Q s [(I, "list_iterator")] [(ax, lo)] (vs.map .val) m ((ax, lo) :: tups)
  | [], vs, m, hd, hR => by
    cases hd
    exact ItemsRest.zero fun h tk F N => done hR.symm m h tk F N
  | (c, p) :: r, vs, m, hd, hR => by
    cases hd with
    | cons h1 h2 =>
      cases h1 with
      | tuple hT hc =>
        cases hc with
        | cons a1 a2 =>
          cases a2 with
          | cons b1 b2 =>
            cases b2
            cases a1
            cases b1
            refine ItemsRest.val fun h tk F => AllObj.cons fun oI hcls => AllObj.nil fun N => ?_
            have N' : News h₀ env.locals h ((I, oI) :: (ax, lo) :: tups) := N
            refine turn c p _ _ _ _ m h tk oI _ hcls ?_ hT F N' ?_ ?_
            · exact News.isTup N' (.tail _ (.tail _ hT))
            · intro hb
              rw [← hR]
              show (if bad c = true then some c else firstWrong r) = some c
              rw [if_pos hb]
            · intro m' hb
              have hR' : firstWrong r = R := by
                rw [← hR]
                show _ = if bad c = true then some c else firstWrong r
                rw [if_neg (by rw [hb]; exact Bool.false_ne_true)]
              exact ⟨⟨.head _, trivial⟩, items_pairs R hI turn done r _ m' h2 hR'⟩
end
theorem bad_1 {c : Str} (h : (c == Str.ofString "") = true) : bad c = true := by unfold bad; rw [h]; rfl
theorem bad_2 {c : Str} (h2 : (Builtin.Str.occurrences (Str.ofString "pPdmrei" ++ Str.ofString "ck" ++ Str.ofString "sMnNbBfFCaSvxDGUXzZK") c 0 (Str.ofString "pPdmrei" ++ Str.ofString "ck" ++ Str.ofString "sMnNbBfFCaSvxDGUXzZK").length 1).isEmpty = true) : bad c = true := by
  unfold bad known; rw [h2]; exact Bool.or_true _
theorem bad_3 {c : Str} (h : (c == Str.ofString "") = false) (h2 : (Builtin.Str.occurrences (Str.ofString "pPdmrei" ++ Str.ofString "ck" ++ Str.ofString "sMnNbBfFCaSvxDGUXzZK") c 0 (Str.ofString "pPdmrei" ++ Str.ofString "ck" ++ Str.ofString "sMnNbBfFCaSvxDGUXzZK").length 1).isEmpty = false) : bad c = false := by
  unfold bad known; rw [h, h2]; rfl
def fwVal : Option Str → Value → Prop
  | none, v => v = .none
  | some c, v => ∃ t, v = .str c t
section
local macro_rules | `(tactic| walk_at "exec For Tuple Name cons nil") => `(tactic| (k_here; (rename Fr _ _ _ _ => lF'); (with_unfolding_all refine' For_turns lF' ?_; k_whole)))
local macro_rules | `(tactic| walk_at "Mine none") => `(tactic| skip)
local macro_rules | `(tactic| walk_at "pyIter ref") => `(tactic| (refine stop_of ?_))
set_option maxHeartbeats 8000000 in
theorem first_wrong_ctr {w : World} {mean : ExcName → Option Value} {mg mb : Str → Option Value} 
   {pa : Addr} {vs : List Value} {cap : Nat} {tups : List (Addr × Obj)} {ps : List (Str × Str)} (hdat : DatAll tups vs (pairDat ps)) :
   Ctr w mean mg mb 2 16 129 [.ref pa] ((pa, listOf vs.toArray cap) :: tups) (fun _ => True) (fun v news' => fwVal (firstWrong ps) v ∧ news' = (pa, listOf vs.toArray cap) :: tups) := by
  unfold Ctr
  intro dp un gd cn cs a ccd cl outer A₀ base h₀ L m s Q E rest B F X N hdis _ T hk hdp hu hret
  have hdm : PySem.Challenge.rw_ok0037_01 = PySem.Challenge.rw_ok0037_01 ∧ hd.heap_39 = hd.heap_39 := ⟨rfl, rfl⟩
  revert hdm
  k_fill
  intro _
  refine wpAny_call ?_
  k_dflt (refine' enterF ?k1 ?k2 ?k3 ?k4 hdis ?k5 ?kA ?kF ?kK ?k6 ?k7 ?k8 ?k9 ?kB ?_ ?c2 ?c3 ?c4 ?c5; (case kA => exact rfl); (case kF => exact rfl); (case kK => assumption); (case k1 => k_asm); (case k2 => k_asm); (case k3 => k_asm); (case k4 => k_asm); (case k5 => k_asm); (case k6 => k_is); (case k7 => k_is); (case k8 => ktr_room); (case k9 => exact BindsTo.of_eq rfl); (case c5 => decide); (case kB => exact locs rfl); (case c2 => exact rfl); (case c3 => exact rfl); (case c4 => exact rfl); k_whole; intro g' L' h' FG' F' N' B' X' T' hg'; (try dsimp only); (try k_lift B'); (try k_fold))
  w_top off
  k_steps
  unfold Stop
  refine iter_listTurns (lo := listOf vs.toArray cap) (vs := vs) (n := cap) (by rfl) (by k_asm) (by k_asm) (.head _) (by rfl) (by rfl) ?_
  intro I hI
  refine items_pairs (firstWrong ps) hI ?turn ?done ps vs _ hdat rfl
  case turn =>
    intro c p tc tp T n m5 h tk oI rest5 hcls hTup hTm F5 N5 hb1 hb2
    (try k_fold)
    k_steps
    · refine' hret _ _ _ _ ⟨?kv, rfl⟩ (by k_asm) ?kN ?kD
      case kv => rw [hb1 (bad_1 (by assumption))]; exact ⟨_, rfl⟩
      case kN => exact (backF N hg' (by k_asm) (cb_drop (by k_asm) (fun q hq => .tail _ hq)) (cb_drop (by k_asm) (fun q hq => .tail _ hq))).1
      case kD => exact (backF N hg' (by k_asm) (cb_drop (by k_asm) (fun q hq => .tail _ hq)) (cb_drop (by k_asm) (fun q hq => .tail _ hq))).2
    · refine' hret _ _ _ _ ⟨?kv, rfl⟩ (by k_asm) ?kN ?kD
      case kv => rw [hb1 (bad_2 (by assumption))]; exact ⟨_, rfl⟩
      case kN => exact (backF N hg' (by k_asm) (cb_drop (by k_asm) (fun q hq => .tail _ hq)) (cb_drop (by k_asm) (fun q hq => .tail _ hq))).1
      case kD => exact (backF N hg' (by k_asm) (cb_drop (by k_asm) (fun q hq => .tail _ hq)) (cb_drop (by k_asm) (fun q hq => .tail _ hq))).2
    · exact ⟨_, _, _, _, rfl, by k_asm, by k_asm, fun p hp q hq => by rw [List.mem_singleton.mp hq]; exact Nat.ne_of_lt (hI p hp), hb2 _ (bad_3 (by assumption) (by assumption))⟩
  case done =>
    intro hR m5 h tk F5 N5
    (try k_fold)
    k_steps
    refine' hret _ _ _ _ ⟨?kv, rfl⟩ (by k_asm) ?kN ?kD
    case kv => rw [hR]; rfl
    case kN => exact (backF N hg' (by k_asm) (by k_asm) (by k_asm)).1
    case kD => exact (backF N hg' (by k_asm) (by k_asm) (by k_asm)).2
end
end Mine
namespace Mine
set_option maxRecDepth 100000
theorem codes_of_use {w : World} {mean : ExcName → Option Value} {mg mb : Str → Option Value} {dp un : Nat} {gd : Option (List Code)} {cn : Str} {cs : Scope} {a : Addr} {ccd : Value} {cl : List (Str × Addr)} {outer : List Env} {A₀ : Around} {base h₀ : Heap} {L : Addr} {m : Str → Option Value} {s : Shared} {Q E : Value → Shared → Prop}
   {spec : Str} {ts : Tok} {news : List (Addr × Obj)}
   (B : Below A₀ base outer h₀) (F : Fr h₀ L s.heap m) (X : (hd.heap_39 w.params).In h₀) (N : News h₀ L s.heap news)
   (T : CTop mean mg mb h₀) (hk : cs.kind = .function) (hlen : spec.length ≤ 1000) (hdp : dp + 2 < recursionLimit) (hu : un + 16 < cLine)
   (hret : ∀ (l : Addr) (vs : List Value) (cap : Nat) (tups : List (Addr × Obj)) (h' : Heap) (tk' : Nat), DatAll tups vs (pairDat (codesOf spec)) → Fr h₀ L h' m → News h₀ L h' ((l, listOf vs.toArray cap) :: (tups ++ news)) → (∀ p ∈ news, ∀ q ∈ (l, listOf vs.toArray cap) :: tups, p.1 ≠ q.1) → Q (.ref l) { s with heap := h', toks := tk' }) :
   wpAny (model PP w) (ktrTop dp un gd cn cs L a ccd cl outer) (call (.ref 47) [.str spec ts]) Q E s := by
  refine codes_of_ctr hlen dp un gd cn cs a ccd cl outer A₀ base h₀ L m s Q E news B F X N (by simp) trivial T hk hdp hu ?_
  rintro v h' tk' news' ⟨l, vs, cap, tups, rfl, rfl, hdat⟩ F' N' hoff
  exact hret l vs cap tups h' tk' hdat F' N' hoff
section
local macro_rules | `(tactic| walk_at "call ref") => `(tactic| (k_here; (with_reducible show wpAny _ _ (call (Value.ref 47) [Value.str _ _]) _ _ _); k_dflt (refine' codes_of_use ?k1 ?k2 ?k3 ?k4 ?k5 ?k6 ?kl ?c0 ?c1 ?_; (case k1 => k_asm); (case k2 => k_asm); (case k3 => k_asm); (case k4 => k_asm); (case k5 => k_asm); (case k6 => first | assumption | rfl); (case kl => first | assumption | omega); (case c0 => ktr_room); (case c1 => ktr_units); k_whole); intro l' vs' cap' tups' h' tk' hdt' F' N' hoff'; (try k_fold)))
local macro_rules | `(tactic| walk_at "exec For Tuple Call") => `(tactic| (k_here; (rename Fr _ _ _ _ => lF'); (with_unfolding_all refine' For_turns lF' ?_; k_whole)))
local macro_rules | `(tactic| walk_at "Mine none") => `(tactic| skip)
local macro_rules | `(tactic| walk_at "pyIter ref") => `(tactic| (refine stop_of ?_))
set_option maxHeartbeats 8000000 in
theorem spec_error_ctr {w : World} {mean : ExcName → Option Value} {mg mb : Str → Option Value} 
   {spec : Str} {ts : Tok} (hlen : spec.length ≤ 1000) :
   Ctr w mean mg mb 3 24 54 [.str spec ts] [] (fun _ => True) (fun v news' => fwVal (firstWrong (codesOf spec)) v ∧ news' = []) := by
  unfold Ctr
  intro dp un gd cn cs a ccd cl outer A₀ base h₀ L m s Q E rest B F X N hdis _ T hk hdp hu hret
  have hdm : PySem.Challenge.rw_ok0037_01 = PySem.Challenge.rw_ok0037_01 ∧ hd.heap_39 = hd.heap_39 := ⟨rfl, rfl⟩
  revert hdm
  k_fill
  intro _
  refine wpAny_call ?_
  k_dflt (refine' enterF ?k1 ?k2 ?k3 ?k4 hdis ?k5 ?kA ?kF ?kK ?k6 ?k7 ?k8 ?k9 ?kB ?_ ?c2 ?c3 ?c4 ?c5; (case kA => exact rfl); (case kF => exact rfl); (case kK => assumption); (case k1 => k_asm); (case k2 => k_asm); (case k3 => k_asm); (case k4 => k_asm); (case k5 => k_asm); (case k6 => k_is); (case k7 => k_is); (case k8 => ktr_room); (case k9 => exact BindsTo.of_eq rfl); (case c5 => decide); (case kB => exact locs rfl); (case c2 => exact rfl); (case c3 => exact rfl); (case c4 => exact rfl); k_whole; intro g' L' h' FG' F' N' B' X' T' hg'; (try dsimp only); (try k_lift B'); (try k_fold))
  w_top off
  k_steps
  unfold Stop
  rename_i l vs cap tups h5 tk5 hdat F5 N5 hoff5
  simp only [List.append_nil] at N5
  refine iter_listTurns (lo := listOf vs.toArray cap) (vs := vs) (n := cap) (by rfl) (by k_asm) (by k_asm) (.head _) (by rfl) (by rfl) ?_
  intro I hI
  refine items_pairs (firstWrong (codesOf spec)) hI ?turn ?done (codesOf spec) vs _ hdat rfl
  case turn =>
    intro c p tc tp T n m5 h tk oI rest5 hcls hTup hTm F5 N5 hb1 hb2
    (try k_fold)
    k_steps
    · refine' hret _ _ _ _ ⟨?kv, rfl⟩ (by k_asm) ?kN ?kD
      case kv => rw [hb1 (bad_1 (by assumption))]; exact ⟨_, rfl⟩
      case kN => exact (backF (pre := []) (news' := []) N hg' (by k_asm) News.nil News.nil).1
      case kD => exact (backF (pre := []) (news' := []) N hg' (by k_asm) News.nil News.nil).2
    · refine' hret _ _ _ _ ⟨?kv, rfl⟩ (by k_asm) ?kN ?kD
      case kv => rw [hb1 (bad_2 (by assumption))]; exact ⟨_, rfl⟩
      case kN => exact (backF (pre := []) (news' := []) N hg' (by k_asm) News.nil News.nil).1
      case kD => exact (backF (pre := []) (news' := []) N hg' (by k_asm) News.nil News.nil).2
    · exact ⟨_, _, _, _, rfl, by k_asm, by k_asm, fun p hp q hq => by rw [List.mem_singleton.mp hq]; exact Nat.ne_of_lt (hI p hp), hb2 _ (bad_3 (by assumption) (by assumption))⟩
  case done =>
    intro hR m5 h tk F5 N5
    (try k_fold)
    k_steps
    refine' hret _ _ _ _ ⟨?kv, rfl⟩ (by k_asm) ?kN ?kD
    case kv => rw [hR]; rfl
    case kN => exact (backF (pre := []) (news' := []) N hg' (by k_asm) News.nil News.nil).1
    case kD => exact (backF (pre := []) (news' := []) N hg' (by k_asm) News.nil News.nil).2
end
end Mine
namespace Mine
set_option maxRecDepth 100000
theorem deck_frame {h₀ h h' : Heap} {L d x : Addr} {ox od od' : Obj} {news : List (Addr × Obj)} {g : Obj → List (Addr × Obj)} (N : News h₀ L h news) (U : UpdF d od news g) (hx : (x, ox) ∈ news) (hdx : @Ne Nat x d) :
    ∃ rest : List (Addr × Obj), News h₀ L h ([(d, od), (x, ox)] ++ rest) ∧ (∀ p ∈ rest, ∀ q ∈ [(d, od), (x, ox)], p.1 ≠ q.1) ∧ ∀ od' h', News h₀ L h' ([(d, od'), (x, ox)] ++ rest) → News h₀ L h' (g od') := by
  obtain ⟨own, post, rfl, hg, a1, a2⟩ := U.split
  refine ⟨(own ++ post).filter (fun p => decide (p.1 ≠ x)), ?_, ?_, ?_⟩
  · intro p hp
    rcases List.mem_append.mp hp with hp | hp
    · rcases List.mem_cons.mp hp with rfl | hp
      · exact N _ (by simp)
      · rw [List.mem_singleton.mp hp]; exact N _ hx
    · have := (List.mem_filter.mp hp).1
      exact N p (by rcases List.mem_append.mp this with h | h <;> simp [h])
  · intro p hp q hq
    obtain ⟨h1, h2⟩ := List.mem_filter.mp hp
    rcases List.mem_cons.mp hq with rfl | hq
    · rcases List.mem_append.mp h1 with h | h
      · exact a1 p h
      · exact a2 p h
    · rw [List.mem_singleton.mp hq]; simpa using h2
  · intro od' h' N' p hp
    rw [hg] at hp
    have key : p ∈ own ++ post → h'.get? p.1 = some p.2 ∧ p.1 ≠ L ∧ h₀.get? p.1 = none := by
      intro hm
      by_cases e : p.1 = x
      · have hpN := (N p (by rcases List.mem_append.mp hm with h | h <;> simp [h])).1
        have hxN := (N _ hx).1
        have : p = (x, ox) := by
          rw [e] at hpN
          have e2 := hpN.symm.trans hxN
          exact Prod.ext e (Option.some.inj e2)
        rw [this]
        exact N' (x, ox) (by simp)
      · exact N' p (List.mem_append_right _ (List.mem_filter.mpr ⟨hm, by simpa using e⟩))
    rcases List.mem_append.mp hp with h | h
    · exact key (List.mem_append_left _ h)
    · rcases List.mem_cons.mp h with rfl | h
      · exact N' (d, od') (by simp)
      · exact key (List.mem_append_right _ h)
theorem prompt_use {w : World} {mean : ExcName → Option Value} {mg mb : Str → Option Value} {dp un : Nat} {gd : Option (List Code)} {cn : Str} {cs : Scope} {a : Addr} {ccd : Value} {cl : List (Str × Addr)} {outer : List Env} {A₀ : Around} {base h₀ : Heap} {L : Addr} {m : Str → Option Value} {s : Shared} {Q E : Value → Shared → Prop}
   {d x : Addr} {n : Int} {tn : Tok} {vs : List Value} {ns : List Int} {cd cx : Nat} {news : List (Addr × Obj)} {g : Obj → List (Addr × Obj)}
   (B : Below A₀ base outer h₀) (F : Fr h₀ L s.heap m) (X : (hd.heap_39 w.params).In h₀) (N : News h₀ L s.heap news)
   (T : CTop mean mg mb h₀) (hk : cs.kind = .function) (U : UpdF d (deckO x n tn cd) news g) (hx : (x, listOf vs.toArray cx) ∈ news) (hdx : @Ne Nat x d) (hi : IntsAre vs ns) (hlen : ns.length ≤ 63)
   (h0 : 0 ≤ n) (h1 : n ≤ 900) (hdp : dp + 2 < recursionLimit) (hu : un + 16 < cLine)
   (hret : ∀ (p : Str) (n' : Int) (t t2 : Tok) (h' : Heap) (tk' : Nat), Over (Str.ofString "*p: ^") p → n ≤ n' → n' ≤ n + 4 → Fr h₀ L h' m → News h₀ L h' (g (deckO x n' t2 cd)) → Q (.str p t) { s with heap := h', toks := tk' }) :
   wpAny (model PP w) (ktrTop dp un gd cn cs L a ccd cl outer) (call (.ref 115) [.ref d]) Q E s := by
  obtain ⟨rest, N1, hdis, back⟩ := deck_frame (od' := deckO x n tn cd) (h' := s.heap) N U hx hdx
  refine prompt_ctr (tn := tn) (cd := cd) (cx := cx) hdx hi hlen h0 h1 dp un gd cn cs a ccd cl outer A₀ base h₀ L m s Q E rest B F X N1 hdis trivial T hk hdp hu ?_
  rintro v h' tk' news' ⟨p, t, n', t', rfl, ho, hn1, hn2, rfl⟩ F' N' _
  exact hret p n' t t' h' tk' ho hn1 hn2 F' (back _ _ N')
section
variable {prog : Program} {w : World} {A : Around} {E : Value → Shared → Prop} {s : Shared} {env : Env} {h₀ : Heap} {x : Str} {body : List Stmt} {Q : Flow → Shared → Prop}
theorem range_inv {I : Addr} {a : Int} {n : Nat} {m₀ : Str → Option Value} {news : List (Addr × Obj)} (stored : List Str) (J : Nat → List (Addr × Obj) → Prop) (start : J 0 news)
    (turn : ∀ i nx t (u : Str → Option Value) h tk, i < n → J i nx → Fr h₀ env.locals h (fun y => if y = x then some (.int (a + (i : Int)) t) else if stored.contains y = true then u y else m₀ y) → News h₀ env.locals h ((I, itR (a + ((i + 1 : Nat) : Int)) ((n : Int) - ((i + 1 : Nat) : Int))) :: nx) →
      wpAny (model prog w) A (execs body env) (UnrPost h₀ env.locals { s with heap := h, toks := tk } I (itR (a + ((i + 1 : Nat) : Int)) ((n : Int) - ((i + 1 : Nat) : Int))) (fun m' n' => (∀ z, z ≠ x → stored.contains z = false → m' z = m₀ z) ∧ J (i + 1) n') Q) E { s with heap := h, toks := tk })
    (done : ∀ nx (u : Str → Option Value) h tk, J n nx → Fr h₀ env.locals h (fun y => if y = x then u y else if stored.contains y = true then u y else m₀ y) → News h₀ env.locals h nx → Q .next { s with heap := h, toks := tk }) :
    RangeRest prog w A E h₀ env x body Q s I a n n 0 m₀ news := by
  have key : ∀ (k i : Nat) (m : Str → Option Value) (nx : List (Addr × Obj)), i + k = n → (∀ z, z ≠ x → stored.contains z = false → m z = m₀ z) → J i nx → RangeRest prog w A E h₀ env x body Q s I a n k i m nx := by
    intro k
    induction k with
    | zero =>
      intro i m nx hi hm hJ
      have e : i = n := by omega
      subst e
      refine RangeRest.zero fun h tk F N => done nx m h tk hJ ?_ N
      have em : (fun y => if y = x then m y else if stored.contains y = true then m y else m₀ y) = m := by
        funext y
        by_cases h1 : y = x
        · rw [if_pos h1]
        · rw [if_neg h1]
          cases h2 : stored.contains y with
          | true => rw [if_pos rfl]
          | false => rw [if_neg Bool.false_ne_true]; exact (hm y h1 h2).symm
      rw [em]; exact F
    | succ k ih =>
      intro i m nx hi hm hJ
      refine RangeRest.succ fun t h tk F N => ?_
      have em : (fun y => if y = x then some (Value.int (a + (i : Int)) t) else if stored.contains y = true then m y else m₀ y) = fun y => if y = x then some (Value.int (a + (i : Int)) t) else m y := by
        funext y
        by_cases h1 : y = x
        · rw [if_pos h1, if_pos h1]
        · rw [if_neg h1, if_neg h1]
          cases h2 : stored.contains y with
          | true => rw [if_pos rfl]
          | false => rw [if_neg Bool.false_ne_true]; exact (hm y h1 h2).symm
      have F2 := F
      rw [← em] at F2
      refine wpAny_mono (turn i nx t m h tk (by omega) hJ F2 N) (fun f s₂ p => ?_) fun _ _ e => e
      have fin : UnrEnd h₀ env.locals { s with heap := h, toks := tk } I (itR (a + ((i + 1 : Nat) : Int)) ((n : Int) - ((i + 1 : Nat) : Int))) (fun m' n' => (∀ z, z ≠ x → stored.contains z = false → m' z = m₀ z) ∧ J (i + 1) n') s₂ →
          UnrEnd h₀ env.locals { s with heap := h, toks := tk } I (itR (a + ((i + 1 : Nat) : Int)) ((n : Int) - ((i + 1 : Nat) : Int))) (RangeRest prog w A E h₀ env x body Q s I a n k (i + 1)) s₂ := by
        rintro ⟨h', tk', m', news', e, F', N', ho, hm', hJ'⟩
        exact ⟨h', tk', m', news', e, F', N', ho, ih (i + 1) m' news' (by omega) hm' hJ'⟩
      cases f with
      | ret v => exact p
      | brk => exact p
      | next => exact fin p
      | cont => exact fin p
  exact key n 0 m₀ news (by omega) (fun _ _ _ => rfl) start
end
end Mine
namespace Mine
set_option maxRecDepth 100000
def tabK : Str := Str.ofString "pPdmreicksMnNbBfFCaSvxDGUXzZK?9"
def Drawn1 (q : Str × Str) : Prop := One tabK q.1 ∧ Over (Str.ofString "*p: ^") q.2
def Drawn (ps : List (Str × Str)) : Prop := (∀ q ∈ ps, Drawn1 q ∨ (q.1 = Str.ofString "" ∧ q.2 = Str.ofString "")) ∧ ∀ q r, ps = q :: r → Drawn1 q
theorem over_ok {p : Str} (h : Over (Str.ofString "*p: ^") p) : PyData.strOk p = true ∧ 10 ∉ p.cps.toList := by
  have e : ∀ c ∈ (Str.ofString "*p: ^").cps.toList, c < 0x110000 ∧ c ≠ 10 := by decide +kernel
  constructor
  · show p.cps.all (· < 0x110000) = true
    rw [← Array.all_toList, List.all_eq_true]
    exact fun c hc => decide_eq_true (e c (h.2 c hc)).1
  · exact fun hc => (e 10 (h.2 10 hc)).2 rfl
theorem tabK_ok {c : Str} (h : One tabK c) : PyData.strOk c = true ∧ ∃ k, c = ⟨#[k]⟩ ∧ k ≠ 10 ∧ isFlag k = false := by
  have e : ∀ c ∈ tabK.cps.toList, c < 0x110000 ∧ c ≠ 10 ∧ isFlag c = false := by decide +kernel
  obtain ⟨k, hk, rfl⟩ := h
  exact ⟨by show (#[k] : Array Nat).all (· < 0x110000) = true; simpa using (e k hk).1, k, rfl, (e k hk).2⟩
theorem drawn_good {ps : List (Str × Str)} (h : Drawn ps) : GoodPairs ps := by
  refine ⟨fun q hq => ?_, fun q r e => ?_⟩
  · rcases h.1 q hq with ⟨h1, h2⟩ | h1
    · obtain ⟨_, k, e, hk, _⟩ := tabK_ok h1
      exact .inl ⟨k, e, hk, (over_ok h2).2⟩
    · exact .inr h1
  · obtain ⟨_, k, e, _, hf⟩ := tabK_ok (h.2 q r e).1
    exact ⟨k, e, hf⟩
theorem drawn_ok {ps : List (Str × Str)} (h : Drawn ps) : ∀ e ∈ pairDat ps, kqdOk 8 e = true := by
  intro e he
  obtain ⟨q, hq, rfl⟩ := List.mem_map.mp he
  have hs : PyData.strOk q.1 = true ∧ PyData.strOk q.2 = true := by
    rcases h.1 q hq with ⟨h1, h2⟩ | ⟨h1, h2⟩
    · exact ⟨(tabK_ok h1).1, (over_ok h2).1⟩
    · rw [h1, h2]; decide +kernel
  show kqdOk 8 (Dat.tuple [Dat.str q.1, Dat.str q.2]) = true
  simp [kqdOk, hs.1, hs.2]
theorem drawn_snoc {ps : List (Str × Str)} {q : Str × Str} (h : Drawn ps) (hq : Drawn1 q ∨ (q.1 = Str.ofString "" ∧ q.2 = Str.ofString "")) (hn : ps = [] → Drawn1 q) : Drawn (ps ++ [q]) := by
  refine ⟨fun p hp => ?_, fun p r e => ?_⟩
  · rcases List.mem_append.mp hp with hp | hp
    · exact h.1 p hp
    · rw [List.mem_singleton.mp hp]; exact hq
  · cases ps with
    | nil => cases e; exact hn rfl
    | cons a b => cases e; exact h.2 _ _ rfl
theorem pairDat_snoc' (a : List (Str × Str)) (b : Str × Str) : pairDat (a ++ [b]) = pairDat a ++ [Dat.tuple [Dat.str b.1, Dat.str b.2]] := by simp [pairDat]
theorem pairDat_len (a : List (Str × Str)) : (pairDat a).length = a.length := by simp [pairDat]
def CodesJ (fa d x : Addr) (vs : List Value) (cx cd : Nat) (n : Int) (i : Nat) (nx : List (Addr × Obj)) : Prop :=
  ∃ ws cap tups ps k t', nx = (fa, listOf ws.toArray cap) :: (d, deckO x k t' cd) :: (x, listOf vs.toArray cx) :: tups ∧ DatAll tups ws (pairDat ps) ∧ Drawn ps ∧ ps.length = i ∧ n + 1 ≤ k ∧ k ≤ n + 1 + 6 * (i : Int) ∧ (∀ p ∈ tups, p.1 ≠ d) ∧ (∀ p ∈ tups, p.1 ≠ fa) ∧ (∀ p ∈ tups, p.2.cls = .type "tuple")
theorem codes_end {g' h' : Heap} {L' I fa d x T : Addr} {s₁ : Shared} {tk : Nat} {m' m₀ : Str → Option Value} {xb : Str} {stored : List Str} {vs ws : List Value} {cap cx cd i nT : Nat} {tups all : List (Addr × Obj)} {ps : List (Str × Str)} {q : Str × Str} {k' n0 : Int} {t' ta tb : Tok} {it : Obj}
    (F' : Fr g' L' h' m') (N' : News g' L' h' all) (m1 : (I, it) ∈ all) (m2 : (fa, listOf (ws.toArray.push (.ref T)) (cap + 1)) ∈ all) (m3 : (d, deckO x k' t' cd) ∈ all) (m4 : (x, listOf vs.toArray cx) ∈ all)
    (m5 : (T, ({ cls := .type "tuple", data := .seq [Value.str q.1 ta, Value.str q.2 tb].toArray nT } : Obj)) ∈ all) (m6 : ∀ p ∈ tups, p ∈ all)
    (hit : it.cls = .type "range_iterator") (o1 : @LT.lt Nat _ fa I) (o2 : @LT.lt Nat _ d I) (o3 : @LT.lt Nat _ x I) (o4 : @LT.lt Nat _ I T)
    (hm : ∀ z, z ≠ xb → stored.contains z = false → m' z = m₀ z)
    (hdat : DatAll tups ws (pairDat ps)) (hdr : Drawn ps) (hpl : ps.length = i) (hk1 : n0 + 1 ≤ k') (hk2 : k' ≤ n0 + 1 + 6 * ((i + 1 : Nat) : Int)) (ho1 : ∀ p ∈ tups, p.1 ≠ d) (ho2 : ∀ p ∈ tups, p.1 ≠ fa) (hcls : ∀ p ∈ tups, p.2.cls = .type "tuple")
    (hq : Drawn1 q ∨ (q.1 = Str.ofString "" ∧ q.2 = Str.ofString "")) (hqn : ps = [] → Drawn1 q) :
    UnrEnd g' L' s₁ I it (fun m' n' => (∀ z, z ≠ xb → stored.contains z = false → m' z = m₀ z) ∧ CodesJ fa d x vs cx cd n0 (i + 1) n') { s₁ with heap := h', toks := tk } := by
  have e : (ws ++ [Value.ref T]).toArray = ws.toArray.push (Value.ref T) := by simp
  have lt1 : @LT.lt Nat _ d T := Nat.lt_trans o2 o4
  have lt2 : @LT.lt Nat _ fa T := Nat.lt_trans o1 o4
  refine ⟨h', tk, m', (fa, listOf (ws ++ [Value.ref T]).toArray (cap + 1)) :: (d, deckO x k' t' cd) :: (x, listOf vs.toArray cx) :: (T, ({ cls := .type "tuple", data := .seq [Value.str q.1 ta, Value.str q.2 tb].toArray nT } : Obj)) :: tups, rfl, F', ?_, ?_, hm, ws ++ [Value.ref T], cap + 1, (T, ({ cls := .type "tuple", data := .seq [Value.str q.1 ta, Value.str q.2 tb].toArray nT } : Obj)) :: tups, ps ++ [q], k', t', rfl, ?_, drawn_snoc hdr hq hqn, by rw [List.length_append, hpl]; rfl, hk1, hk2, ?_, ?_, ?_⟩
  · rw [e]
    intro p hp
    simp only [List.mem_cons] at hp
    rcases hp with rfl | rfl | rfl | rfl | rfl | hp
    · exact N' _ m1
    · exact N' _ m2
    · exact N' _ m3
    · exact N' _ m4
    · exact N' _ m5
    · exact N' _ (m6 p hp)
  · intro p hp
    simp only [List.mem_cons] at hp
    rcases hp with rfl | rfl | rfl | rfl | hp
    · exact Nat.ne_of_lt o1
    · exact Nat.ne_of_lt o2
    · exact Nat.ne_of_lt o3
    · exact Nat.ne_of_gt o4
    · intro e9
      have h1 := (N' _ (m6 p hp)).1
      have h2 := (N' _ m1).1
      rw [e9] at h1
      have h3 := Option.some.inj (h1.symm.trans h2)
      have h4 := hcls p hp
      rw [h3, hit] at h4
      exact absurd (Value.type.inj h4) (by decide)
  · rw [pairDat_snoc']
    refine DatAll.append (DatAll.mono (fun p hp => .tail _ hp) hdat) (DatAll.one (.tuple (.head _) ?_))
    exact .cons (.str _ _) (.cons (.str _ _) .nil)
  · intro p hp
    rcases List.mem_cons.mp hp with rfl | hp
    · exact Nat.ne_of_gt lt1
    · exact ho1 p hp
  · intro p hp
    rcases List.mem_cons.mp hp with rfl | hp
    · exact Nat.ne_of_gt lt2
    · exact ho2 p hp
  · intro p hp
    rcases List.mem_cons.mp hp with rfl | hp
    · rfl
    · exact hcls p hp
theorem one_code {r : Int} (h0 : 0 ≤ r) (h1 : r < 29 + 2) : One tabK (PySem.Txt.item tabK r) := one_item h0 (by
  have e : (tabK.cps.size : Int) = 31 := by decide +kernel
  omega)
section
variable {prog : Program} {w : World} {A : Around} {E : Value → Shared → Prop} {s : Shared} {t : Tok} {Q : Value → Shared → Prop}
theorem len_known (h : ∀ t' k', Q (.int 29 t') { s with toks := k' }) : wpAny (model prog w) A (call (.builtin "len") [.str (Str.ofString "pPdmrei" ++ Str.ofString "ck" ++ Str.ofString "sMnNbBfFCaSvxDGUXzZK") t]) Q E s := by
  have e : ((Str.ofString "pPdmrei" ++ Str.ofString "ck" ++ Str.ofString "sMnNbBfFCaSvxDGUXzZK").length : Int) = 29 := by decide +kernel
  exact len_writK _ rfl (by omega) (by rw [e]; exact h _ _)
end
section
local macro_rules | `(tactic| walk_at "call builtin:len") => `(tactic| ((with_reducible show wpAny _ _ (call (Value.builtin "len") [Value.str _ _]) _ _ _); (refine len_known ?_); intro _ _))
local macro_rules | `(tactic| walk_at "call ref") => `(tactic| (k_here; (with_reducible show wpAny _ _ (call (Value.ref 110) [Value.ref _, Value.int _ _]) _ _ _); k_dflt (refine' draw_use ?k1 ?k2 ?k3 ?k4 ?k5 ?k6 ?kU ?kx ?kd ?ki ?kl ?a0 ?a1 ?b0 ?b1 ?c0 ?c1 ?_; (case k1 => k_asm); (case k2 => k_asm); (case k3 => k_asm); (case k4 => k_asm); (case k5 => k_asm); (case k6 => first | assumption | rfl); (case kU => k_updF); (case kx => k_mem); (case kd => k_ne); (case ki => assumption); (case kl => omega); (case a0 => omega); (case a1 => omega); (case b0 => first | decide | decide +kernel); (case b1 => first | decide | decide +kernel); (case c0 => ktr_room); (case c1 => ktr_units); k_whole); intro r' t' t2' h' tk' hr0 hr1 F' N'; (try dsimp only at N'); (try k_fold)))
local macro_rules | `(tactic| walk_at "call ref") => `(tactic| (k_here; (with_reducible show wpAny _ _ (call (Value.ref 115) [Value.ref _]) _ _ _); k_dflt (refine' prompt_use ?k1 ?k2 ?k3 ?k4 ?k5 ?k6 ?kU ?kx ?kd ?ki ?kl ?a0 ?a1 ?c0 ?c1 ?_; (case k1 => k_asm); (case k2 => k_asm); (case k3 => k_asm); (case k4 => k_asm); (case k5 => k_asm); (case k6 => first | assumption | rfl); (case kU => k_updF); (case kx => k_mem); (case kd => k_ne); (case ki => assumption); (case kl => omega); (case a0 => omega); (case a1 => omega); (case c0 => ktr_room); (case c1 => ktr_units); k_whole); intro p' n' t' t2' h' tk' ho' hn1' hn2' F' N'; (try dsimp only at N'); (try k_fold)))
local macro_rules | `(tactic| k_all) => `(tactic| assumption)
local macro_rules | `(tactic| walk_at "compareOp NotEq ref ref") => `(tactic| (k_here; (with_reducible show wpAny _ _ (compareOp CmpOp.NotEq (Value.ref _) (Value.ref _)) _ _ _); k_dflt (refine' kqd_ne ?N ?a ?b ?c ?d ?e ?f ?g ?i DatAll.nil (List.forall_mem_nil _) ?l (List.forall_mem_nil _) ?n ?_; (case N => k_asm); (case a => k_mem); (case b => rfl); (case c => rfl); (case d => with_reducible assumption); (case e => (intro p hp; repeat (first | exact hp | apply List.Mem.tail))); (case f => exact List.Mem.head _); (case g => rfl); (case i => rfl); (case l => assumption); (case n => ktr_units); k_whole)))
local macro_rules | `(tactic| walk_at "call type:range") => `(tactic| ((rename Fr _ _ _ _ => F'); (rename News _ _ _ _ => N'); (with_unfolding_all refine range1_rows F' N' ?_; intro _ _ _ _ _ _ _ _ _)))
local macro_rules | `(tactic| walk_at "exec For Name Call cons nil") => `(tactic| (k_here; (rename Fr _ _ _ _ => lF'); (with_unfolding_all refine' For_invVF lF' ?k1 ?k2 ?_; (case k1 => exact rfl); (case k2 => exact rfl); k_whole)))
local macro_rules | `(tactic| walk_at "pyIter ref") => `(tactic| (refine stop_of ?_))
set_option maxHeartbeats 8000000 in
theorem law_codes_ctr {w : World} {mean : ExcName → Option Value} {mg mb : Str → Option Value} 
   {d x : Addr} {n : Int} {tn : Tok} {vs : List Value} {ns : List Int} {cd cx : Nat} (hdx : @Ne Nat x d) (hi : IntsAre vs ns) (hlen : ns.length ≤ 63) (h0 : 0 ≤ n) (h1 : n ≤ 800) :
   Ctr w mean mg mb 3 100 122 [.ref d] [(d, deckO x n tn cd), (x, listOf vs.toArray cx)] (fun _ => True) (fun v news' => ∃ l ws cap tups ps n' t', v = .ref l ∧ news' = (l, listOf ws.toArray cap) :: (d, deckO x n' t' cd) :: (x, listOf vs.toArray cx) :: tups ∧ DatAll tups ws (pairDat ps) ∧ Drawn ps ∧ ps.length ≤ 4 ∧ n ≤ n' ∧ n' ≤ n + 25) := by
  unfold Ctr
  intro dp un gd cn cs a ccd cl outer A₀ base h₀ L m s Q E rest B F X N hdis _ T hk hdp hu hret
  have hdm : PySem.Challenge.rw_ok0037_01 = PySem.Challenge.rw_ok0037_01 ∧ hd.heap_39 = hd.heap_39 := ⟨rfl, rfl⟩
  revert hdm
  k_fill
  intro _
  refine wpAny_call ?_
  k_dflt (refine' enterF ?k1 ?k2 ?k3 ?k4 hdis ?k5 ?kA ?kF ?kK ?k6 ?k7 ?k8 ?k9 ?kB ?_ ?c2 ?c3 ?c4 ?c5; (case kA => exact rfl); (case kF => exact rfl); (case kK => assumption); (case k1 => k_asm); (case k2 => k_asm); (case k3 => k_asm); (case k4 => k_asm); (case k5 => k_asm); (case k6 => k_is); (case k7 => k_is); (case k8 => ktr_room); (case k9 => exact BindsTo.of_eq rfl); (case c5 => decide); (case kB => exact locs rfl); (case c2 => exact rfl); (case c3 => exact rfl); (case c4 => exact rfl); k_whole; intro g' L' h' FG' F' N' B' X' T' hg'; (try dsimp only); (try k_lift B'); (try k_fold))
  w_top off
  k_steps
  unfold Stop
  rename_i fa hq3 l1 hq2 FA NA r tA t2A hq1 tkA hr0 hr1 FB NB hq tkq t1 u1 v1 hR F3 N3 hkeep
  refine iter_rangeUnr (n := (r - 0).toNat) (by rfl) hR (small_one (by omega) (by omega) (by omega) (by omega)) (rangeSize_nat _ _) F3 N3 ?_
  intro I hI
  have hI1 : @LT.lt Nat _ fa I := hI _ (.head _)
  have hI2 : @LT.lt Nat _ d I := hI _ (.tail _ (.head _))
  have hI3 : @LT.lt Nat _ x I := hI _ (.tail _ (.tail _ (.head _)))
  refine range_inv [Str.ofString "code"] (CodesJ fa d x vs cx cd n) ?start ?turn ?done
  case start => exact ⟨[], 0, [], [], _, _, rfl, .nil, ⟨by simp, by intro q r e; cases e⟩, rfl, by omega, by omega, by simp, by simp, by simp⟩
  case turn =>
    rintro i nx t u h tk hi5 ⟨ws, cap, tups, ps, k, t5, rfl, hdat, hdr, hpl, hk1, hk2, ho1, ho2, hcls⟩ F5 N5
    have hok := drawn_ok hdr
    have hwl := hdat.length
    rw [pairDat_len] at hwl
    (try k_fold)
    k_steps
    · refine' codes_end (q := (_, _)) (by k_asm) (by k_asm) (.tail _ (.tail _ (.head _))) (.tail _ (.tail _ (.tail _ (.head _)))) (.tail _ (.tail _ (.tail _ (.tail _ (.head _))))) (.tail _ (.tail _ (.tail _ (.tail _ (.tail _ (.head _)))))) (.head _) (fun p hp => .tail _ (.tail _ (.tail _ (.tail _ (.tail _ (.tail _ hp)))))) rfl hI1 hI2 hI3 (by omega) ?hm hdat hdr hpl (by omega) (by omega) ho1 ho2 hcls (.inl ?hq) (fun _ => ?hq)
      case hm =>
        intro z h1 h2
        have h3 : z ≠ Str.ofString "code" := by intro e; rw [e] at h2; exact absurd h2 (by decide +kernel)
        rw [if_neg h3, if_neg h1, if_neg (by rw [h2]; exact Bool.false_ne_true)]
      case hq => exact ⟨one_code (by assumption) (by assumption), by assumption⟩
    · refine' codes_end (q := (Str.ofString "", Str.ofString "")) (by k_asm) (by k_asm) (.tail _ (.tail _ (.head _))) (.tail _ (.tail _ (.tail _ (.head _)))) (.tail _ (.tail _ (.tail _ (.tail _ (.head _))))) (.tail _ (.tail _ (.tail _ (.tail _ (.tail _ (.head _)))))) (.head _) (fun p hp => .tail _ (.tail _ (.tail _ (.tail _ (.tail _ (.tail _ hp)))))) rfl hI1 hI2 hI3 (by omega) ?hm hdat hdr hpl (by omega) (by omega) ho1 ho2 hcls (.inr ⟨rfl, rfl⟩) ?hq
      case hm =>
        intro z h1 h2
        have h3 : z ≠ Str.ofString "code" := by intro e; rw [e] at h2; exact absurd h2 (by decide +kernel)
        rw [if_neg h3, if_neg h1, if_neg (by rw [h2]; exact Bool.false_ne_true)]
      case hq =>
        intro e
        rename decide (pairDat ps = []) = false => hne
        rw [e] at hne
        exact absurd hne (by simp [pairDat])
    · refine' codes_end (q := (_, _)) (by k_asm) (by k_asm) (.tail _ (.head _)) (.tail _ (.tail _ (.head _))) (.tail _ (.tail _ (.tail _ (.head _)))) (.tail _ (.tail _ (.tail _ (.tail _ (.head _))))) (.head _) (fun p hp => .tail _ (.tail _ (.tail _ (.tail _ (.tail _ hp))))) rfl hI1 hI2 hI3 (by omega) ?hm hdat hdr hpl (by omega) (by omega) ho1 ho2 hcls (.inl ?hq) (fun _ => ?hq)
      case hm =>
        intro z h1 h2
        have h3 : z ≠ Str.ofString "code" := by intro e; rw [e] at h2; exact absurd h2 (by decide +kernel)
        rw [if_neg h3, if_neg h1, if_neg (by rw [h2]; exact Bool.false_ne_true)]
      case hq => exact ⟨one_code (by assumption) (by assumption), by assumption⟩
  case done =>
    rintro nx u h tk ⟨ws, cap, tups, ps, k, t5, rfl, hdat, hdr, hpl, hk1, hk2, ho1, ho2, hcls⟩ F5 N5
    (try k_fold)
    k_steps
    refine' hret _ _ _ _ ⟨fa, ws, cap, tups, ps, k, t5, rfl, rfl, hdat, hdr, by omega, by omega, by omega⟩ (by k_asm) ?kN ?kD
    case kN => exact (backF N hg' (by k_asm) (by k_asm) (by k_asm)).1
    case kD => exact (backF N hg' (by k_asm) (by k_asm) (by k_asm)).2
end
end Mine
namespace Mine
set_option maxRecDepth 100000
theorem frame_of {h₀ h : Heap} {L : Addr} {news pre : List (Addr × Obj)} (N : News h₀ L h news) (hp : ∀ p ∈ pre, p ∈ news) :
    ∃ rest : List (Addr × Obj), News h₀ L h (pre ++ rest) ∧ (∀ p ∈ rest, ∀ q ∈ pre, p.1 ≠ q.1) ∧ ∀ h', News h₀ L h' (pre ++ rest) → News h₀ L h' news := by
  refine ⟨news.filter (fun p => decide (∀ q ∈ pre, p.1 ≠ q.1)), ?_, ?_, ?_⟩
  · intro p hm
    rcases List.mem_append.mp hm with hm | hm
    · exact N p (hp p hm)
    · exact N p (List.mem_filter.mp hm).1
  · intro p hm
    simpa using (List.mem_filter.mp hm).2
  · intro h' N' p hm
    by_cases hq : ∀ q ∈ pre, p.1 ≠ q.1
    · exact N' p (List.mem_append_right _ (List.mem_filter.mpr ⟨hm, decide_eq_true hq⟩))
    · have : ∃ q ∈ pre, p.1 = q.1 := by
        apply Classical.byContradiction
        intro hn
        exact hq fun q hq' e => hn ⟨q, hq', e⟩
      obtain ⟨q, hq', e⟩ := this
      have h1 := (N p hm).1
      have h2 := (N q (hp q hq')).1
      rw [e] at h1
      have : p = q := Prod.ext e (Option.some.inj (h1.symm.trans h2))
      rw [this]
      exact N' q (List.mem_append_left _ hq')
section
variable {w : World} {mean : ExcName → Option Value} {mg mb : Str → Option Value} {dp un : Nat} {gd : Option (List Code)} {cn : Str} {cs : Scope} {a : Addr} {ccd : Value} {cl : List (Str × Addr)} {outer : List Env} {A₀ : Around} {base h₀ : Heap} {L : Addr} {m : Str → Option Value} {s : Shared} {Q E : Value → Shared → Prop}
theorem law_codes_use {d x : Addr} {n : Int} {tn : Tok} {vs : List Value} {ns : List Int} {cd cx : Nat} {news : List (Addr × Obj)} {g : Obj → List (Addr × Obj)}
   (B : Below A₀ base outer h₀) (F : Fr h₀ L s.heap m) (X : (hd.heap_39 w.params).In h₀) (N : News h₀ L s.heap news)
   (T : CTop mean mg mb h₀) (hk : cs.kind = .function) (U : UpdF d (deckO x n tn cd) news g) (hx : (x, listOf vs.toArray cx) ∈ news) (hdx : @Ne Nat x d) (hi : IntsAre vs ns) (hlen : ns.length ≤ 63)
   (h0 : 0 ≤ n) (h1 : n ≤ 800) (hdp : dp + 3 < recursionLimit) (hu : un + 100 < cLine)
   (hret : ∀ (l : Addr) (ws : List Value) (cap : Nat) (tups : List (Addr × Obj)) (ps : List (Str × Str)) (n' : Int) (t2 : Tok) (h' : Heap) (tk' : Nat), DatAll tups ws (pairDat ps) → Drawn ps → ps.length ≤ 4 → n ≤ n' → n' ≤ n + 25 → Fr h₀ L h' m → News h₀ L h' ((l, listOf ws.toArray cap) :: (g (deckO x n' t2 cd) ++ tups)) → Q (.ref l) { s with heap := h', toks := tk' }) :
   wpAny (model PP w) (ktrTop dp un gd cn cs L a ccd cl outer) (call (.ref 122) [.ref d]) Q E s := by
  obtain ⟨rest, N1, hdis, back⟩ := deck_frame (od' := deckO x n tn cd) (h' := s.heap) N U hx hdx
  refine law_codes_ctr (tn := tn) (cd := cd) (cx := cx) hdx hi hlen h0 h1 dp un gd cn cs a ccd cl outer A₀ base h₀ L m s Q E rest B F X N1 hdis trivial T hk hdp hu ?_
  rintro v h' tk' news' ⟨l, ws, cap, tups, ps, n', t', rfl, rfl, hdat, hdr, hpl, hn1, hn2⟩ F' N' _
  refine hret l ws cap tups ps n' t' h' tk' hdat hdr hpl hn1 hn2 F' ?_
  have Ng := back (deckO x n' t' cd) h' (fun p hp => N' p (by
    simp only [List.cons_append, List.nil_append, List.mem_cons, List.mem_append] at hp ⊢
    rcases hp with h | h | h <;> simp [h]))
  intro p hp
  rcases List.mem_cons.mp hp with rfl | hp
  · exact N' _ (by simp)
  · rcases List.mem_append.mp hp with hp | hp
    · exact Ng p hp
    · exact N' p (by simp [hp])
theorem flags_of_useS {spec f : Str} {ts : Tok} {news : List (Addr × Obj)}
   (B : Below A₀ base outer h₀) (F : Fr h₀ L s.heap m) (X : (hd.heap_39 w.params).In h₀) (N : News h₀ L s.heap news)
   (T : CTop mean mg mb h₀) (hk : cs.kind = .function) (hlen : spec.length ≤ 1000) (hf : flagsOf spec = f) (hdp : dp + 1 < recursionLimit) (hu : un + 8 < cLine)
   (hret : ∀ (t : Tok) (h' : Heap) (tk' : Nat), Fr h₀ L h' m → News h₀ L h' news → Q (.str f t) { s with heap := h', toks := tk' }) :
   wpAny (model PP w) (ktrTop dp un gd cn cs L a ccd cl outer) (call (.ref 42) [.str spec ts]) Q E s := by
  subst hf
  exact flags_of_use B F X N T hk hlen hdp hu fun t h' tk' _ F' N' => hret t h' tk' F' N'
theorem codes_of_useS {spec : Str} {ps : List (Str × Str)} {ts : Tok} {news : List (Addr × Obj)}
   (B : Below A₀ base outer h₀) (F : Fr h₀ L s.heap m) (X : (hd.heap_39 w.params).In h₀) (N : News h₀ L s.heap news)
   (T : CTop mean mg mb h₀) (hk : cs.kind = .function) (hlen : spec.length ≤ 1000) (hf : codesOf spec = ps) (hdp : dp + 2 < recursionLimit) (hu : un + 16 < cLine)
   (hret : ∀ (l : Addr) (vs : List Value) (cap : Nat) (tups : List (Addr × Obj)) (h' : Heap) (tk' : Nat), DatAll tups vs (pairDat ps) → Fr h₀ L h' m → News h₀ L h' ((l, listOf vs.toArray cap) :: (news ++ tups)) → Q (.ref l) { s with heap := h', toks := tk' }) :
   wpAny (model PP w) (ktrTop dp un gd cn cs L a ccd cl outer) (call (.ref 47) [.str spec ts]) Q E s := by
  subst hf
  refine codes_of_use B F X N T hk hlen hdp hu fun l vs cap tups h' tk' hdat F' N' _ => hret l vs cap tups h' tk' hdat F' ?_
  intro p hp
  refine N' p ?_
  simp only [List.mem_cons, List.mem_append] at hp ⊢
  rcases hp with h | h | h <;> simp [h]
def fwV : Option Str → Tok → Value
  | none, _ => .none
  | some c, t => .str c t
theorem fwV_of {R : Option Str} {v : Value} (h : fwVal R v) : ∃ t, v = fwV R t := by
  cases R with
  | none => exact ⟨0, h⟩
  | some c => exact h
theorem spec_error_useS {spec : Str} {ps : List (Str × Str)} {ts : Tok} {news : List (Addr × Obj)}
   (B : Below A₀ base outer h₀) (F : Fr h₀ L s.heap m) (X : (hd.heap_39 w.params).In h₀) (N : News h₀ L s.heap news)
   (T : CTop mean mg mb h₀) (hk : cs.kind = .function) (hlen : spec.length ≤ 1000) (hf : codesOf spec = ps) (hdp : dp + 3 < recursionLimit) (hu : un + 24 < cLine)
   (hret : ∀ (t : Tok) (h' : Heap) (tk' : Nat), Fr h₀ L h' m → News h₀ L h' news → Q (fwV (firstWrong ps) t) { s with heap := h', toks := tk' }) :
   wpAny (model PP w) (ktrTop dp un gd cn cs L a ccd cl outer) (call (.ref 54) [.str spec ts]) Q E s := by
  subst hf
  refine spec_error_ctr hlen dp un gd cn cs a ccd cl outer A₀ base h₀ L m s Q E news B F X N (by simp) trivial T hk hdp hu ?_
  rintro v h' tk' news' ⟨hv, rfl⟩ F' N' _
  obtain ⟨t, rfl⟩ := fwV_of hv
  exact hret t h' tk' F' N'
theorem first_wrong_use {pa : Addr} {vs : List Value} {cap : Nat} {tups news : List (Addr × Obj)} {ps : List (Str × Str)}
   (B : Below A₀ base outer h₀) (F : Fr h₀ L s.heap m) (X : (hd.heap_39 w.params).In h₀) (N : News h₀ L s.heap news)
   (T : CTop mean mg mb h₀) (hk : cs.kind = .function) (hp : (pa, listOf vs.toArray cap) ∈ news) (hdat : DatAll tups vs (pairDat ps)) (ht : ∀ p ∈ tups, p ∈ news) (hdp : dp + 2 < recursionLimit) (hu : un + 16 < cLine)
   (hret : ∀ (t : Tok) (h' : Heap) (tk' : Nat), Fr h₀ L h' m → News h₀ L h' news → Q (fwV (firstWrong ps) t) { s with heap := h', toks := tk' }) :
   wpAny (model PP w) (ktrTop dp un gd cn cs L a ccd cl outer) (call (.ref 129) [.ref pa]) Q E s := by
  obtain ⟨rest, N1, hdis, back⟩ := frame_of (pre := (pa, listOf vs.toArray cap) :: tups) N (by
    intro p hm
    rcases List.mem_cons.mp hm with rfl | hm
    · exact hp
    · exact ht p hm)
  refine first_wrong_ctr (cap := cap) hdat dp un gd cn cs a ccd cl outer A₀ base h₀ L m s Q E rest B F X N1 hdis trivial T hk hdp hu ?_
  rintro v h' tk' news' ⟨hv, rfl⟩ F' N' _
  obtain ⟨t, rfl⟩ := fwV_of hv
  exact hret t h' tk' F' (back _ N')
end
section
variable {prog : Program} {w : World} {A : Around} {E : Value → Shared → Prop} {s : Shared} {Q : Value → Shared → Prop} {t u : Tok}
theorem cmp_str_same {x : Str} (h : Q (.bool false) s) : wpAny (model prog w) A (compareOp .NotEq (.str x t) (.str x u)) Q E s := by
  refine ne_str ?_
  simpa using h
theorem cmp_fw {R : Option Str} (h : Q (.bool false) s) : wpAny (model prog w) A (compareOp .NotEq (fwV R t) (fwV R u)) Q E s := by
  cases R with
  | none => exact EqNone.ne_none_none h
  | some c => exact cmp_str_same h
end
section
variable {prog : Program} {w : World} {A : Around} {h₀ : Heap} {L : Addr} {m : Str → Option Value} {env : Env} {elt : Expr} {x x₂ : Str} {scope : Scope} {cl : List (Str × Addr)} {s : Shared} {S : List (Addr × Obj) → Prop} {Fin : List Value → List (Addr × Obj) → Prop}
theorem comp_pairsP {vals : List Value} {tups news : List (Addr × Obj)} {ps : List (Str × Str)} (hd : DatAll tups vals (pairDat ps)) (hsub : ∀ p ∈ tups, p ∈ news) (hS : S news)
    (turn : ∀ (c p : Str) tc tp I oI C oC D m₂ ys h tk (E' : Value → Shared → Prop), (c, p) ∈ ps → LCg.NsObj oC m₂ → m₂ x = some (.str c tc) → m₂ x₂ = some (.str p tp) → Fr h₀ L h m → News h₀ L h ((I, oI) :: (C, oC) :: (D, LCg.lst ys) :: news) → LCg.Off3 I C D news →
      wpAny (model prog w) A (eval elt (compEnvC scope cl C env)) (LCg.CompEnd h₀ L m { s with heap := h, toks := tk } I oI C oC D (LCg.lst ys) S (fun y news' => news' = news ∧ ∃ t', y = Value.str (c ++ p) t')) E' { s with heap := h, toks := tk })
    (fin : ∀ ys, StrsAre ys (ps.map fun q => q.1 ++ q.2) → Fin ys news) :
    LCp.CompRestP prog w A h₀ L m env elt x x₂ scope cl s S (fun i v => vals.toArray[i]? = some v) Fin vals.toArray.size 0 [] news := by
  have hlen := hd.length
  rw [pairDat_len] at hlen
  have hget : ∀ (vs : List Value) (ps : List (Str × Str)), DatAll tups vs (pairDat ps) → ∀ (i : Nat) (v : Value), vs[i]? = some v → ∃ c p, ps[i]? = some (c, p) ∧ ∃ T n tc tp, v = Value.ref T ∧ (T, ({ cls := .type "tuple", data := .seq [Value.str c tc, Value.str p tp].toArray n } : Obj)) ∈ tups := by
    intro vs ps
    induction ps generalizing vs with
    | nil => intro h i v hv; cases h; simp at hv
    | cons q r ih =>
      intro h i v hv
      obtain ⟨c, p⟩ := q
      cases h with
      | cons h1 h2 =>
        cases i with
        | zero =>
          simp at hv
          subst hv
          cases h1 with
          | tuple hT hc =>
            cases hc with
            | cons a1 a2 =>
              cases a2 with
              | cons b1 b2 =>
                cases b2
                cases a1
                cases b1
                exact ⟨c, p, rfl, _, _, _, _, rfl, hT⟩
        | succ i => simpa using ih _ h2 i v (by simpa using hv)
  have key : ∀ (j i : Nat) (ys : List Value), i + j = vals.toArray.size → StrsAre ys ((ps.take i).map fun q => q.1 ++ q.2) → LCp.CompRestP prog w A h₀ L m env elt x x₂ scope cl s S (fun i v => vals.toArray[i]? = some v) Fin j i ys news := by
    intro j
    induction j with
    | zero =>
      intro i ys hi hy
      have e : i = ps.length := by simp at hi; omega
      subst e
      rw [List.take_length] at hy
      exact LCp.CompRestP.zero (fin ys hy)
    | succ j ih =>
      intro i ys hi hy
      refine LCp.CompRestP.succ fun v hv => ?_
      obtain ⟨c, p, hcp, T, n, tc, tp, rfl, hT⟩ := hget vals ps hd i v (by simpa using hv)
      refine ⟨T, _, .str c tc, .str p tp, n, rfl, hsub _ hT, rfl, rfl, ?_⟩
      intro I oI C oC D m₂ h tk E' hC hx hx2 F N off _
      refine wpAny_mono (turn c p tc tp I oI C oC D m₂ ys h tk E' (List.mem_of_getElem? hcp) hC hx hx2 F N off) (fun y s₂ hq => ?_) fun _ _ e => e
      obtain ⟨h', tk', nw, e, F', N', off', hS', rfl, t', rfl⟩ := hq
      refine ⟨h', tk', _, e, F', N', off', hS', ih (i + 1) _ (by omega) ?_⟩
      rw [List.take_add_one, hcp, Option.toList_some, List.map_append, List.map_singleton]
      exact strs_snoc hy
  exact key _ 0 [] (by omega) (by simpa using StrsAre.nil)
theorem spec_len {f : Str} {ps : List (Str × Str)} (hf : f.length ≤ 3) (hp : ps.length ≤ 4) (hq : ∀ q ∈ ps, (q.1 ++ q.2).length ≤ 4) : (PySem.Txt.join (Str.ofString "\n") (ps.map fun q => q.1 ++ q.2)).length ≤ 20 ∧ (f ++ PySem.Txt.join (Str.ofString "\n") (ps.map fun q => q.1 ++ q.2)).length ≤ 1000 := by
  have e1 : PySem.Txt.join (Str.ofString "\n") (ps.map fun q => q.1 ++ q.2) = Str.join (Str.ofString "\n") (ps.map fun q => q.1 ++ q.2) := StrLaws.glued_eq_join _ _
  have h1 := StrLaws.join_length_le (Str.ofString "\n") (ps.map fun q => q.1 ++ q.2)
  have h2 := StrLaws.sumLen_le (B := 4) (ps.map fun q => q.1 ++ q.2) (by
    intro y hy
    obtain ⟨q, hq', rfl⟩ := List.mem_map.mp hy
    exact hq q hq')
  have e2 : (Str.ofString "\n").length = 1 := by decide +kernel
  rw [List.length_map] at h1 h2
  rw [e2] at h1
  rw [e1, Str.length_append]
  omega
theorem drawn_short {ps : List (Str × Str)} (h : Drawn ps) : ∀ q ∈ ps, (q.1 ++ q.2).length ≤ 4 := by
  intro q hq
  rw [Str.length_append]
  rcases h.1 q hq with ⟨h1, h2⟩ | ⟨h1, h2⟩
  · obtain ⟨c, _, e⟩ := h1
    rw [e]
    have : q.2.length ≤ 3 := h2.1
    show 1 + _ ≤ 4
    omega
  · rw [h1, h2]; decide +kernel
end
end Mine
namespace Mine
set_option maxRecDepth 100000
abbrev cmdO (P : Params) (k sp : Str) (t1 t2 t3 t4 t5 : Tok) : Obj := dictOf [⟨PyData.keyHash P (Str.ofString "name"), .str (Str.ofString "name") t1, .str k t2⟩, ⟨PyData.keyHash P (Str.ofString "spec"), .str (Str.ofString "spec") t3, .str sp t4⟩, ⟨PyData.keyHash P (Str.ofString "deed"), .str (Str.ofString "deed") t5, .none⟩] 3
abbrev tabO (P : Params) (rd : Addr) (t : Tok) : Obj := dictOf [⟨PyData.keyHash P (Str.ofString "rows"), .str (Str.ofString "rows") t, .ref rd⟩] 1
inductive TabRel (P : Params) (tups : List (Addr × Obj)) : List (Str × Value) → List (Str × Value) → Prop
  | nil : TabRel P tups [] []
  | cons {k sp : Str} {ci cdx : Addr} {t1 t2 t3 t4 t5 t : Tok} {r o : List (Str × Value)} : (ci, instObj 31 cdx) ∈ tups → (cdx, cmdO P k sp t1 t2 t3 t4 t5) ∈ tups → PyData.strOk k = true → PyData.strOk sp = true → TabRel P tups r o → TabRel P tups ((k, .ref ci) :: r) ((k, .str sp t) :: o)
theorem TabRel.mono {P : Params} {tups tups' : List (Addr × Obj)} (hs : ∀ p ∈ tups, p ∈ tups') {r o : List (Str × Value)} (h : TabRel P tups r o) : TabRel P tups' r o := by
  induction h with
  | nil => exact .nil
  | cons a b x y _ ih => exact .cons (hs _ a) (hs _ b) x y ih
theorem TabRel.keys {P : Params} {tups : List (Addr × Obj)} {r o : List (Str × Value)} (h : TabRel P tups r o) : r.map (·.1) = o.map (·.1) := by
  induction h with
  | nil => rfl
  | cons _ _ _ _ _ ih => rw [List.map_cons, List.map_cons, ih]
theorem TabRel.oks {P : Params} {tups : List (Addr × Obj)} {r o : List (Str × Value)} (h : TabRel P tups r o) : ∀ x ∈ o.map (·.1), PyData.strOk x = true := by
  induction h with
  | nil => intro x hx; cases hx
  | cons _ _ a _ _ ih =>
    intro x hx
    rw [List.map_cons] at hx
    rcases List.mem_cons.mp hx with rfl | hx
    · exact a
    · exact ih x hx
theorem TabRel.any {P : Params} {tups : List (Addr × Obj)} {r o : List (Str × Value)} (h : TabRel P tups r o) (k : Str) : r.any (fun kv => decide (kv.1 = k)) = o.any (fun kv => decide (kv.1 = k)) := by
  induction h with
  | nil => rfl
  | cons _ _ _ _ _ ih => rw [List.any_cons, List.any_cons, ih]
theorem TabRel.stored {P : Params} {tups : List (Addr × Obj)} {r o : List (Str × Value)} (h : TabRel P tups r o) {k sp : Str} {ci cdx : Addr} {t1 t2 t3 t4 t5 t : Tok} (h1 : (ci, instObj 31 cdx) ∈ tups) (h2 : (cdx, cmdO P k sp t1 t2 t3 t4 t5) ∈ tups) (x1 : PyData.strOk k = true) (x2 : PyData.strOk sp = true) :
    TabRel P tups (PySem.stored r k (.ref ci)) (PySem.stored o k (.str sp t)) := by
  unfold PySem.stored
  rw [h.any k]
  by_cases hb : o.any (fun kv => decide (kv.1 = k)) = true
  · rw [if_pos hb, if_pos hb]
    clear hb
    induction h with
    | nil => exact .nil
    | @cons k' sp' ci' cdx' s1 s2 s3 s4 s5 s r' o' a b z1 z2 _ ih =>
      rw [List.map_cons, List.map_cons]
      by_cases e : k' = k
      · subst e
        simp only [if_true]
        exact .cons h1 h2 x1 x2 ih
      · simp only [if_neg e]
        exact .cons a b z1 z2 ih
  · rw [if_neg hb, if_neg hb]
    clear hb
    induction h with
    | nil => exact .cons h1 h2 x1 x2 .nil
    | cons a b z1 z2 _ ih => exact .cons a b z1 z2 ih
theorem stored_len (r : List (Str × Value)) (k : Str) (v : Value) : (PySem.stored r k v).length ≤ r.length + 1 := by
  unfold PySem.stored
  split <;> simp
theorem TabRel.at {P : Params} {tups : List (Addr × Obj)} {r o : List (Str × Value)} (h : TabRel P tups r o) (k : Str) :
    (valueAt r k = none ∧ valueAt o k = none) ∨ ∃ sp ci cdx t1 t2 t3 t4 t5 t, valueAt r k = some (.ref ci) ∧ valueAt o k = some (.str sp t) ∧ (ci, instObj 31 cdx) ∈ tups ∧ (cdx, cmdO P k sp t1 t2 t3 t4 t5) ∈ tups ∧ PyData.strOk k = true ∧ PyData.strOk sp = true := by
  induction h with
  | nil => exact .inl ⟨rfl, rfl⟩
  | @cons k' sp' ci' cdx' s1 s2 s3 s4 s5 s r' o' a b z1 z2 _ ih =>
    by_cases e : k' = k
    · subst e
      exact .inr ⟨sp', ci', cdx', s1, s2, s3, s4, s5, s, by simp [valueAt], by simp [valueAt], a, b, z1, z2⟩
    · have e1 : valueAt ((k', Value.ref ci') :: r') k = valueAt r' k := by simp [valueAt, e]
      have e2 : valueAt ((k', Value.str sp' s) :: o') k = valueAt o' k := by simp [valueAt, e]
      rw [e1, e2]
      exact ih
def TabJ (prog : Program) (w : World) (rd od DK XA ti tdx CL : Addr) (ys : List Value) (oC : Obj) (tt : Tok) (i : Nat) (nx : List (Addr × Obj)) : Prop :=
  ∃ ro oo rkv okv kk t' tups, nx = (rd, ro) :: (od, oo) :: (DK, deckO XA kk t' 0) :: (ti, instObj 99 tdx) :: (tdx, tabO w.params rd tt) :: (XA, listOf ys.toArray ys.length) :: (CL, oC) :: tups ∧ ro.IsDictOf (PySem.strKind prog w) rkv ∧ oo.IsDictOf (PySem.strKind prog w) okv ∧ TabRel w.params tups rkv okv ∧ rkv.length ≤ i ∧ okv.length ≤ i ∧ 0 ≤ kk ∧ kk ≤ 91 + 2 * (i : Int) ∧
    (∀ p ∈ tups, p.1 ≠ rd) ∧ (∀ p ∈ tups, p.1 ≠ od) ∧ (∀ p ∈ tups, p.1 ≠ DK) ∧ (∀ p ∈ tups, p.2.cls ≠ .type "range_iterator")
theorem table_end {prog : Program} {w : World} {g h' : Heap} {L rd od DK XA ti tdx CL I ci cdx : Addr} {s₁ : Shared} {tk : Nat} {m' m₀ : Str → Option Value} {xb : Str} {stored9 : List Str} {ys : List Value} {oC o1 o2 it : Obj} {tt t' t1 t2 t3 t4 t5 t : Tok} {i : Nat} {kk : Int} {tups : List (Addr × Obj)} {k sp : Str} {rkv okv : List (Str × Value)}
    (F' : Fr g L h' m') (N' : News g L h' ((ci, instObj 31 cdx) :: (cdx, cmdO w.params k sp t1 t2 t3 t4 t5) :: (I, it) :: (rd, o1) :: (od, o2) :: (DK, deckO XA kk t' 0) :: (ti, instObj 99 tdx) :: (tdx, tabO w.params rd tt) :: (XA, listOf ys.toArray ys.length) :: (CL, oC) :: tups))
    (hit : it.cls = .type "range_iterator") (a1 : @LT.lt Nat _ rd I) (a2 : @LT.lt Nat _ od I) (a3 : @LT.lt Nat _ DK I) (a4 : @LT.lt Nat _ ti I) (a5 : @LT.lt Nat _ tdx I) (a6 : @LT.lt Nat _ XA I) (a7 : @LT.lt Nat _ CL I) (a8 : @LT.lt Nat _ I cdx) (a9 : @LT.lt Nat _ cdx ci)
    (hm : ∀ z, z ≠ xb → stored9.contains z = false → m' z = m₀ z)
    (hd1 : o1.IsDictOf (PySem.strKind prog w) (PySem.stored rkv k (.ref ci))) (hd2 : o2.IsDictOf (PySem.strKind prog w) (PySem.stored okv k (.str sp t))) (x1 : PyData.strOk k = true) (x2 : PyData.strOk sp = true) (hrel : TabRel w.params tups rkv okv) (hlr : rkv.length ≤ i) (hlo : okv.length ≤ i) (hk0 : 0 ≤ kk) (hk1 : kk ≤ 91 + 2 * ((i + 1 : Nat) : Int))
    (ho1 : ∀ p ∈ tups, p.1 ≠ rd) (ho2 : ∀ p ∈ tups, p.1 ≠ od) (ho3 : ∀ p ∈ tups, p.1 ≠ DK) (hcls : ∀ p ∈ tups, p.2.cls ≠ .type "range_iterator") :
    UnrEnd g L s₁ I it (fun m' n' => (∀ z, z ≠ xb → stored9.contains z = false → m' z = m₀ z) ∧ TabJ prog w rd od DK XA ti tdx CL ys oC tt (i + 1) n') { s₁ with heap := h', toks := tk } := by
  have b1 : @LT.lt Nat _ I ci := Nat.lt_trans a8 a9
  have hl1 := stored_len rkv k (.ref ci)
  have hl2 := stored_len okv k (.str sp t)
  refine ⟨h', tk, m', (rd, o1) :: (od, o2) :: (DK, deckO XA kk t' 0) :: (ti, instObj 99 tdx) :: (tdx, tabO w.params rd tt) :: (XA, listOf ys.toArray ys.length) :: (CL, oC) :: (ci, instObj 31 cdx) :: (cdx, cmdO w.params k sp t1 t2 t3 t4 t5) :: tups, rfl, F', ?_, ?_, hm,
    o1, o2, _, _, kk, t', (ci, instObj 31 cdx) :: (cdx, cmdO w.params k sp t1 t2 t3 t4 t5) :: tups, rfl, hd1, hd2, ?_, by omega, by omega, hk0, hk1, ?_, ?_, ?_, ?_⟩
  · refine cb_drop N' ?_
    intro p hp
    simp only [List.mem_cons] at hp ⊢
    rcases hp with h | h | h | h | h | h | h | h | h | h | h <;> simp [h]
  · intro p hp
    simp only [List.mem_cons] at hp
    rcases hp with rfl | rfl | rfl | rfl | rfl | rfl | rfl | rfl | rfl | hp
    · exact Nat.ne_of_lt a1
    · exact Nat.ne_of_lt a2
    · exact Nat.ne_of_lt a3
    · exact Nat.ne_of_lt a4
    · exact Nat.ne_of_lt a5
    · exact Nat.ne_of_lt a6
    · exact Nat.ne_of_lt a7
    · exact Nat.ne_of_gt b1
    · exact Nat.ne_of_gt a8
    · intro e9
      have h1 := (N' p (by simp [hp])).1
      have h2 := (N' (I, it) (by simp)).1
      rw [e9] at h1
      have h3 := Option.some.inj (h1.symm.trans h2)
      have h4 := hcls p hp
      rw [h3] at h4
      exact h4 hit
  · exact (hrel.mono fun p hp => .tail _ (.tail _ hp)).stored (.head _) (.tail _ (.head _)) x1 x2
  · intro p hp
    simp only [List.mem_cons] at hp
    rcases hp with rfl | rfl | hp
    · exact Nat.ne_of_gt (Nat.lt_trans a1 b1)
    · exact Nat.ne_of_gt (Nat.lt_trans a1 a8)
    · exact ho1 p hp
  · intro p hp
    simp only [List.mem_cons] at hp
    rcases hp with rfl | rfl | hp
    · exact Nat.ne_of_gt (Nat.lt_trans a2 b1)
    · exact Nat.ne_of_gt (Nat.lt_trans a2 a8)
    · exact ho2 p hp
  · intro p hp
    simp only [List.mem_cons] at hp
    rcases hp with rfl | rfl | hp
    · exact Nat.ne_of_gt (Nat.lt_trans a3 b1)
    · exact Nat.ne_of_gt (Nat.lt_trans a3 a8)
    · exact ho3 p hp
  · intro p hp
    simp only [List.mem_cons] at hp
    rcases hp with rfl | rfl | hp
    · intro e; cases e
    · intro e; exact absurd (Value.type.inj e) (by decide)
    · exact hcls p hp
end Mine
namespace Mine
set_option maxRecDepth 100000
theorem strs_of_keys {knd : Str → Value → Bool} : ∀ {vs : List Value} {kvs : List (Str × Value)}, vs.length = kvs.length →
    (∀ (j : Nat) (v : Value), vs[j]? = some v → ∃ k x t, kvs[j]? = some (k, x) ∧ v = .str k t) → StrsAre vs (kvs.map (·.1))
  | [], [], _, _ => .nil
  | [], _ :: _, h, _ => by cases h
  | _ :: _, [], h, _ => by cases h
  | v :: vs, (k, x) :: kvs, hl, h => by
    obtain ⟨k', x', t, e1, e2⟩ := h 0 v rfl
    have e3 : (k, x) = (k', x') := Option.some.inj e1
    cases e3
    subst e2
    exact .cons k t (strs_of_keys (knd := knd) (Nat.succ.inj hl) fun j u hu => h (j + 1) u hu)
theorem rising_pairs : ∀ (l : List Str) (p : Str), risingS p l = true → (p :: l).Pairwise (fun a b : Str => a.cps.toList ≤ b.cps.toList)
  | [], p, _ => by simp
  | x :: r, p, h => by
    have h1 : (!PySem.Spec.ltCps x.cps.toList p.cps.toList && risingS x r) = true := h
    rw [Bool.and_eq_true, ltCps_eq] at h1
    have h2 : p.cps.toList ≤ x.cps.toList := by
      have h3 := h1.1
      simp only [Bool.not_eq_true', decide_eq_false_iff_not] at h3
      exact h3
    have ih := rising_pairs r x h1.2
    refine List.pairwise_cons.mpr ⟨fun y hy => ?_, ih⟩
    rcases List.mem_cons.mp hy with rfl | hy
    · exact h2
    · exact List.le_trans h2 (List.rel_of_pairwise_cons ih hy)
theorem sorted_pairs : ∀ (l : List Str), sortedS l = true → l.Pairwise (fun a b : Str => a.cps.toList ≤ b.cps.toList)
  | [], _ => .nil
  | x :: r, h => rising_pairs r x h
theorem sorted_one {l₁ l₂ : List Str} (h1 : sortedS l₁ = true) (h2 : sortedS l₂ = true) (hp : l₁.Perm l₂) : l₁ = l₂ := by
  refine List.Perm.eq_of_pairwise (le := fun a b : Str => a.cps.toList ≤ b.cps.toList) ?_ (sorted_pairs _ h1) (sorted_pairs _ h2) hp
  intro a b _ _ x y
  have e : a.cps.toList = b.cps.toList := List.le_antisymm x y
  cases a; cases b
  simp only [Array.toList_inj] at e
  rw [e]
section
variable {prog : Program} {w : World} {A : Around} {E : Value → Shared → Prop} {s : Shared} {h₀ : Heap} {L a b d D : Addr} {m : Str → Option Value} {news : List (Addr × Obj)} {o oa ob : Obj} {ka kb : Nat} {vs xs ys : List Value} {ss : List Str} {kvs : List (Str × Value)} {Q : Value → Shared → Prop}
theorem lsort_strs (F : Fr h₀ L s.heap m) (N : News h₀ L s.heap ((D, listOf vs.toArray 0) :: news)) (l1 : ∀ q ∈ news, @LT.lt Nat _ q.1 D) (hS : StrsAre vs ss) (h64 : vs.length < 64)
    (h : ∀ vs' ss' c h', Fr h₀ L h' m → News h₀ L h' ((D, listOf (List.toArray vs') c) :: news) → StrsAre vs' ss' → ss'.Perm ss → sortedS ss' = true → Q .none { s with heap := h' }) :
    wpAny (model prog w) A (call (.builtin "list.sort") [.ref D]) Q E s := by
  have z := N (D, listOf vs.toArray 0) (.head _)
  have ho : s.heap.get? D = some (seqObj "list" vs.toArray 0) := z.1
  refine wpAny_call_entry PyProof.Rows.slot_list_sort ⟨_, z.1, rfl⟩ PyProof.Rows.entry_list_sort (list_sort_treeK strKind_oneLt ho hS.keysOf (fun v₁ v₂ rest e => keyKind_strs (by rw [← e]; exact hS)) h64 fun st' hp hs => ⟨.none, rfl, ?_⟩) (PyProof.Rows.args_list_sort _)
  obtain ⟨ss', q1, q2, q3⟩ := sorted_out_str hS hp hs
  generalize (arrOf st').map (·.2) = out at q1
  obtain ⟨c, hc⟩ := sortedHeap_at (vs := vs) (out := out) ho
  have F4 : Fr h₀ L (sortedHeap s.heap D vs out) m :=
    ksk_fr (((ksk_fr F (Heap.SameBut.update s.heap D (Obj.mapSeq fun _ => #[])) z.2.1 z.2.2).push (seqObj "tuple" vs.toArray 0)).push (seqObj "list" #[] 0)) (Heap.SameBut.update _ D (Obj.mapSeq fun _ => out)) z.2.1 z.2.2
  refine h out.toList ss' c _ F4 ?_ q1 q2 q3
  intro p hq
  rcases List.mem_cons.mp hq with rfl | hq
  · exact ⟨hc, z.2⟩
  · have y := N p (.tail _ hq)
    exact ⟨(sortedHeap_old (Nat.ne_of_lt (l1 p hq)) (Heap.lt_size y.1)).trans y.1, y.2⟩
theorem sort_dict (hh : A.handled = none) (F : Fr h₀ L s.heap m) (N : News h₀ L s.heap news) (hp : (d, o) ∈ news) (hd : o.IsDictOf (PySem.strKind prog w) kvs) (lo : (d == sysModules) = false) (hn : kvs.length < 64)
    (h : ∀ (D : Addr) (h' : Heap) (tk : Nat) (vs : List Value) (ss : List Str) (c : Nat), Fr h₀ L h' m → News h₀ L h' ((D, listOf vs.toArray c) :: news) → (∀ q ∈ news, @LT.lt Nat _ q.1 D) → StrsAre vs ss → ss.Perm (kvs.map (·.1)) → sortedS ss = true → Q (.ref D) { s with heap := h', toks := tk }) :
    wpAny (model prog w) A (call (.builtin "sorted") [.ref d]) Q E s := by
  obtain ⟨ep, hat⟩ := (kda_dict N hp hd).dictAt
  refine kdu_sorted (kdl_dict (knd := PySem.strKind prog w) (kvs := kvs) (ep := ep) lo) hh F N hat (by rw [sizeLine_eq]; omega) fun D h' tk vs F' N' l1 hl hv => ?_
  refine lsort_strs (s := { s with heap := h', toks := tk }) F' N' l1 (strs_of_keys (knd := fun _ _ => true) hl fun j v hj => ?_) (by omega) fun vs' ss' c h'' F'' N'' a1 a2 a3 => h D h'' tk vs' ss' c F'' N'' l1 a1 a2 a3
  obtain ⟨k, x, hx, hk⟩ := hv j v hj
  obtain ⟨t, ht⟩ := Value.isStrOf_shape hk
  exact ⟨k, x, t, hx, ht⟩
theorem eqvAll_strs : ∀ ss : List Str, PyData.eqvAll (ss.map .str) (ss.map .str) = true
  | [] => by simp [PyData.eqvAll]
  | x :: r => by simp [PyData.eqvAll, PyData.eqv, eqvAll_strs r]
theorem shaped_strs (hok : ∀ x ∈ ss, PyData.strOk x = true) : PySem.SeqAt.shaped (.list (ss.map .str)) = true := by
  simp only [SeqAt.shaped, PyData.canLay0, PyData.depth, canLayAll_strs', depthAll_strs', Bool.and_eq_true, decide_eq_true_eq]
  exact ⟨List.all_eq_true.mpr hok, by decide⟩
theorem strs_eq (N : News h₀ L s.heap news) (ma : (a, listOf xs.toArray ka) ∈ news) (mb : (b, listOf ys.toArray kb) ∈ news) (ha : StrsAre xs ss) (hb : StrsAre ys ss) (hok : ∀ x ∈ ss, PyData.strOk x = true) (hu : A.units + 64 < cLine) (h : Q (.bool true) s) :
    wpAny (model prog w) A (compareOp .Eq (.ref a) (.ref b)) Q E s := by
  refine eq_dataH (reads_list_at (N.get ma) rfl rfl (by simpa using ha.reads s.heap)) (reads_list_at (N.get mb) rfl rfl (by simpa using hb.reads s.heap)) (shaped_strs hok) (shaped_strs hok) hu ?_
  have e : PyData.eqv (.list (ss.map .str)) (.list (ss.map .str)) = true := by rw [PyData.eqv]; exact eqvAll_strs ss
  rw [e]
  exact h
theorem tup2_same {x y : Str} {t1 t2 t3 t4 : Tok} (N : News h₀ L s.heap news) (ma : (a, oa) ∈ news) (ca : oa.cls = .type "tuple") (da : oa.data = .seq #[.str x t1, .str y t2] ka) (mb : (b, ob) ∈ news) (cb : ob.cls = .type "tuple") (db : ob.data = .seq #[.str x t3, .str y t4] kb)
    (hx : PyData.strOk x = true) (hy : PyData.strOk y = true) (hu : A.units + 64 < cLine) (h : Q (.bool false) s) : wpAny (model prog w) A (compareOp .NotEq (.ref a) (.ref b)) Q E s := by
  have hs : PySem.SeqAt.shaped (.tuple [.str x, .str y]) = true := by
    simp [SeqAt.shaped, PyData.canLay0, PyData.canLayAll0, PyData.depth, PyData.depthAll, hx, hy]
  refine ne_dataH (reads_tuple_at (N.get ma) ca da (.cons (.str x t1) (.cons (.str y t2) .nil))) (reads_tuple_at (N.get mb) cb db (.cons (.str x t3) (.cons (.str y t4) .nil))) hs hs hu ?_
  have e : PyData.eqv (.tuple [.str x, .str y]) (.tuple [.str x, .str y]) = true := by simp [PyData.eqv, PyData.eqvAll]
  rw [e]
  exact h
end
end Mine
namespace Mine
set_option maxRecDepth 100000
structure LKMark : Prop where
theorem over_flag {f : Str} (h : Over (Str.ofString "*^@") f) : ∀ c ∈ f.cps.toList, isFlag c = true := by
  have e : ∀ c ∈ (Str.ofString "*^@").cps.toList, isFlag c = true := by decide +kernel
  exact fun c hc => e c (h.2 c hc)
theorem beats_end {g h' : Heap} {L I DK XA CL : Addr} {s₁ : Shared} {tk : Nat} {m' m₀ : Str → Option Value} {xb : Str} {stored : List Str} {ys : List Value} {i : Nat} {all : List (Addr × Obj)} {k' : Int} {t' : Tok} {it oC : Obj}
    (F' : Fr g L h' m') (N' : News g L h' all) (m1 : (I, it) ∈ all) (m2 : (DK, deckO XA k' t' 0) ∈ all) (m3 : (XA, listOf ys.toArray ys.length) ∈ all) (m4 : (CL, oC) ∈ all)
    (o1 : @LT.lt Nat _ DK I) (o2 : @LT.lt Nat _ XA I) (o3 : @LT.lt Nat _ CL I)
    (hm : ∀ z, z ≠ xb → stored.contains z = false → m' z = m₀ z) (hk0 : 0 ≤ k') (hk1 : k' ≤ 30 * ((i + 1 : Nat) : Int)) :
    UnrEnd g L s₁ I it (fun m' n' => (∀ z, z ≠ xb → stored.contains z = false → m' z = m₀ z) ∧ ∃ k t', n' = [(DK, deckO XA k t' 0), (XA, listOf ys.toArray ys.length), (CL, oC)] ∧ 0 ≤ k ∧ k ≤ 30 * ((i + 1 : Nat) : Int)) { s₁ with heap := h', toks := tk } := by
  refine ⟨h', tk, m', [(DK, deckO XA k' t' 0), (XA, listOf ys.toArray ys.length), (CL, oC)], rfl, F', ?_, ?_, hm, k', t', rfl, hk0, hk1⟩
  · intro p hp
    simp only [List.mem_cons, List.not_mem_nil, or_false] at hp
    rcases hp with rfl | rfl | rfl | rfl
    · exact N' _ m1
    · exact N' _ m2
    · exact N' _ m3
    · exact N' _ m4
  · intro p hp
    simp only [List.mem_cons, List.not_mem_nil, or_false] at hp
    rcases hp with rfl | rfl | rfl
    · exact Nat.ne_of_lt o1
    · exact Nat.ne_of_lt o2
    · exact Nat.ne_of_lt o3
theorem item_ok {r : Int} (h0 : 0 ≤ r) (h1 : r < 4) : PyData.strOk (Txt.item (Str.ofString "abcd") r) = true := by
  have h : r = 0 ∨ r = 1 ∨ r = 2 ∨ r = 3 := by omega
  rcases h with rfl | rfl | rfl | rfl <;> decide +kernel
theorem p_ok : PyData.strOk (Str.ofString "p") = true := by decide +kernel
theorem beat_ok {i : Nat} (h : i < 7) : PyData.strOk (Str.ofString "*P" ++ Str.ofString (toString (0 + (i : Int)))) = true := by
  have h1 : i = 0 ∨ i = 1 ∨ i = 2 ∨ i = 3 ∨ i = 4 ∨ i = 5 ∨ i = 6 := by omega
  rcases h1 with rfl | rfl | rfl | rfl | rfl | rfl | rfl <;> decide +kernel
section
local macro_rules | `(tactic| walk_at "call ref") => `(tactic| (k_here; (with_reducible show wpAny _ _ (call (Value.ref 42) [Value.str _ _]) _ _ _); k_dflt (refine' flags_of_useS ?k1 ?k2 ?k3 ?k4 ?k5 ?k6 ?kl ?kf ?c0 ?c1 ?_; (case k1 => k_asm); (case k2 => k_asm); (case k3 => k_asm); (case k4 => k_asm); (case k5 => k_asm); (case k6 => first | assumption | rfl); (case kl => with_reducible assumption); (case kf => with_reducible assumption); (case c0 => decide); (case c1 => decide); k_whole); intro t' h' tk' F' N'; (try k_fold)))
local macro_rules | `(tactic| walk_at "call ref") => `(tactic| (k_here; (with_reducible show wpAny _ _ (call (Value.ref 47) [Value.str _ _]) _ _ _); k_dflt (refine' codes_of_useS ?k1 ?k2 ?k3 ?k4 ?k5 ?k6 ?kl ?kf ?c0 ?c1 ?_; (case k1 => k_asm); (case k2 => k_asm); (case k3 => k_asm); (case k4 => k_asm); (case k5 => k_asm); (case k6 => first | assumption | rfl); (case kl => with_reducible assumption); (case kf => with_reducible assumption); (case c0 => decide); (case c1 => decide); k_whole); intro l' vs' cap' tups' h' tk' hdt' F' N'; (try simp only [List.cons_append, List.nil_append] at N'); (try k_fold)))
local macro_rules | `(tactic| walk_at "call ref") => `(tactic| (k_here; (with_reducible show wpAny _ _ (call (Value.ref 54) [Value.str _ _]) _ _ _); k_dflt (refine' spec_error_useS ?k1 ?k2 ?k3 ?k4 ?k5 ?k6 ?kl ?kf ?c0 ?c1 ?_; (case k1 => k_asm); (case k2 => k_asm); (case k3 => k_asm); (case k4 => k_asm); (case k5 => k_asm); (case k6 => first | assumption | rfl); (case kl => with_reducible assumption); (case kf => with_reducible assumption); (case c0 => decide); (case c1 => decide); k_whole); intro t' h' tk' F' N'; (try k_fold)))
local macro_rules | `(tactic| walk_at "call ref") => `(tactic| (k_here; (with_reducible show wpAny _ _ (call (Value.ref 129) [Value.ref _]) _ _ _); k_dflt (refine' first_wrong_use ?k1 ?k2 ?k3 ?k4 ?k5 ?k6 ?kp ?kdat ?kt ?c0 ?c1 ?_; (case k1 => k_asm); (case k2 => k_asm); (case k3 => k_asm); (case k4 => k_asm); (case k5 => k_asm); (case k6 => first | assumption | rfl); (case kp => k_mem); (case kdat => with_reducible assumption); (case kt => (intro p hp; repeat (first | exact hp | exact List.mem_append.mpr (Or.inl hp) | exact List.mem_append.mpr (Or.inr hp) | apply List.Mem.tail))); (case c0 => decide); (case c1 => decide); k_whole); intro t' h' tk' F' N'; (try k_fold)))
local macro_rules | `(tactic| walk_at "compareOp NotEq str str") => `(tactic| with_reducible refine cmp_str_same ?_)
local macro_rules | `(tactic| walk_at "call ref") => `(tactic| (k_here; (with_reducible show wpAny _ _ (call (Value.ref 110) [Value.ref _, Value.int _ _]) _ _ _); k_dflt (refine' draw_use ?k1 ?k2 ?k3 ?k4 ?k5 ?k6 ?kU ?kx ?kd ?ki ?kl ?a0 ?a1 ?b0 ?b1 ?c0 ?c1 ?_; (case k1 => k_asm); (case k2 => k_asm); (case k3 => k_asm); (case k4 => k_asm); (case k5 => k_asm); (case k6 => first | assumption | rfl); (case kU => k_updF); (case kx => k_mem); (case kd => k_ne); (case ki => assumption); (case kl => omega); (case a0 => omega); (case a1 => omega); (case b0 => decide); (case b1 => decide); (case c0 => decide); (case c1 => decide); k_whole); intro r' t' t2' h' tk' hr0 hr1 F' N'; (try dsimp only at N'); (try k_fold)))
local macro_rules | `(tactic| walk_at "call ref") => `(tactic| (k_here; (with_reducible show wpAny _ _ (call (Value.ref 122) [Value.ref _]) _ _ _); k_dflt (refine' law_codes_use ?k1 ?k2 ?k3 ?k4 ?k5 ?k6 ?kU ?kx ?kd ?ki ?kl ?a0 ?a1 ?c0 ?c1 ?_; (case k1 => k_asm); (case k2 => k_asm); (case k3 => k_asm); (case k4 => k_asm); (case k5 => k_asm); (case k6 => first | assumption | rfl); (case kU => k_updF); (case kx => k_mem); (case kd => k_ne); (case ki => assumption); (case kl => omega); (case a0 => omega); (case a1 => omega); (case c0 => decide); (case c1 => decide); k_whole); intro l' ws' cap' tups' ps' n' t2' h' tk' hdt' hdr' hpl' hn1' hn2' F' N'; (try simp only [List.cons_append, List.nil_append] at N'); (try k_fold)))
local macro_rules | `(tactic| walk_at "call type:range") => `(tactic| ((rename Fr _ _ _ _ => F'); (rename News _ _ _ _ => N'); (with_unfolding_all refine range1_rows F' N' ?_; intro _ _ _ _ _ _ _ _ _)))
local macro_rules | `(tactic| walk_at "pyIter ref") => `(tactic| (refine stop_of ?_))
local macro_rules | `(tactic| walk_at "CompSrc") => `(tactic| (k_here; (fail_if_success (with_reducible rename IntsAre _ (List.take _ _) => hR9)); refine stop_of ?_))
local macro_rules | `(tactic| walk_at "LeaveK") => `(tactic| ((fail_if_success (with_reducible rename LKMark => z9)); (have lkm9 : LKMark := LKMark.mk); walk_at "LeaveK"; (rename Fr _ _ _ _ => kF1); (rename News _ _ _ _ => kN1); (try dsimp only at kF1 kN1); revert kF1 kN1; (rename Fr _ _ _ _ => zF); (rename News _ _ _ _ => zN); clear zN zF lkm9; intro kF1 kN1))
local macro_rules | `(tactic| walk_at "eval Dict nil nil") => `(tactic| (k_here; k_dflt (refine' newDict_K ?k1 ?k2 ?k3 ?_; (case k1 => k_asm); (case k2 => k_asm); (case k3 => exact Top.nolimit (by assumption)); k_whole); intro d' h' o' F' N' l1 lo' hs' fs' hi' fi'; k_lt l1; (try dsimp only at l1); clear hi' fi' fs'))
local macro_rules | `(tactic| walk_at "setItem ref str") => `(tactic| (k_here; k_dflt (refine' kda_set (knd := PySem.strKind _ _) ?F ?N ?U ?d (strKind_is _ _ _ _) ?z ?_; (case F => k_asm); (case N => k_asm); (case U => k_updF); (case d => with_reducible assumption); (case z => rw [sizeLine_eq]; omega)); intro h' o' F' N' hd'; (try dsimp only at N')))
local macro_rules | `(tactic| walk_at "pyIter str") => `(tactic| (refine stop_of ?_))
local macro_rules | `(tactic| walk_at "getMethod ref") => `(tactic| (k_here; (with_reducible show wpAny _ _ (getMethod (Value.ref _) (Str.ofString "get") _) _ _ _); k_dflt (refine kdg_method (knd := PySem.strKind _ _) (by k_asm) (by k_mem) (by with_reducible assumption) ?_)))
local macro_rules | `(tactic| walk_at "call builtin:dict.get") => `(tactic| (k_here; k_dflt (refine kdg_get2 (knd := PySem.strKind _ _) (by k_asm) (by k_mem) (by with_reducible assumption) (by with_reducible assumption) (strKind_is _ _ _ _) _ (by with_reducible assumption) ?_); (try dsimp only [Option.getD])))
local macro_rules | `(tactic| walk_at "compareOp In str ref") => `(tactic| (k_here; k_dflt (refine kda_in (knd := PySem.strKind _ _) (by k_asm) (by k_mem) (by with_reducible assumption) (by with_reducible assumption) (strKind_is _ _ _ _) _ (by with_reducible assumption) ?_)))
local macro_rules | `(tactic| walk_at "subscriptTail") => `(tactic| (k_here; (with_reducible show wpAny _ _ (subscriptTail _ _ (Value.ref _) (Value.str _ _)) _ _ _); k_dflt (refine kda_item (knd := PySem.strKind _ _) (by k_asm) (by k_mem) (by with_reducible assumption) (strKind_is _ _ _ _) (by with_reducible assumption) ?_)))
local macro_rules | `(tactic| k_mem) => `(tactic| first | with_reducible assumption | assumption | exact List.mem_append.mpr (Or.inl (by assumption)))
local macro_rules | `(tactic| k_all) => `(tactic| with_reducible assumption)
local macro_rules | `(tactic| walk_at "SrcLP") => `(tactic| (refine stop_of ?_))
local macro_rules | `(tactic| walk_at "compareOp NotEq ref ref") => `(tactic| (k_here; (with_reducible show wpAny _ _ (compareOp CmpOp.NotEq (Value.ref _) (Value.ref _)) _ _ _); k_dflt (refine tup2_same (by k_asm) (by k_mem) rfl rfl (by k_mem) rfl rfl (by assumption) (by assumption) (by ke_room) ?_)))
local macro_rules | `(tactic| walk_at "call builtin:sorted") => `(tactic| (k_here; (with_reducible show wpAny _ _ (call (Value.builtin "sorted") [Value.ref _]) _ _ _); k_dflt (refine sort_dict (by rfl) (by k_asm) (by k_asm) (by k_mem) (by with_reducible assumption) (by with_reducible assumption) (by omega) ?_); intro D' h' tk' vs' ss' c' F' N' l1 hS' hP' hT'; k_lt l1))
local macro_rules | `(tactic| walk_at "compareOp Eq ref ref") => `(tactic| (refine stop_of ?_))
set_option maxHeartbeats 8000000 in
theorem law_walk : PySem.Challenge.rw_ok0037_01.Holds := Mine.hd (by
  w_top off
  k_go0
  rename World => w1
  rename Shared => s1
  rename Below _ _ _ _ => K0
  replace K0 : Below callerA s1.heap [] s1.heap := K0
  all_goals (try k_fold)
  k_steps
  rename_i DS ws5 hq5 hIs hCs hLs l1a hk1a hk2a g5 hI8 hL8 XA hq4 tkD o1a DK hq3 l1b hq2 oC FB NB hdC hq1 tkq t1 u1 v1 hR F3 N3 hkeep
  rw [List.length_map] at hL8
  have hyl : ys.length ≤ 63 := by omega
  generalize List.map _ (List.take 63 _) = ns at hI8
  have hns := hI8.length
  have hns : ns.length ≤ 63 := by omega
  have NN : News s1.heap s1.heap.objs.size hq1 [(DK, deckO XA 0 tkD 0), (XA, listOf ys.toArray ys.length), (s1.heap.objs.size + 1, oC)] := cb_drop N3 (by
    intro p hp
    rcases List.mem_cons.mp hp with rfl | hp
    · exact .head _
    · rcases List.mem_cons.mp hp with rfl | hp
      · exact .tail _ (.head _)
      · rw [List.mem_singleton.mp hp]; exact .tail _ (.tail _ (.tail _ (.head _))))
  clear N3 NB hIs hCs hLs hk1a hk2a hL8 FB hkeep
  have hd1 : @LT.lt Nat _ XA DK := l1b.1
  have hd2 : @LT.lt Nat _ (s1.heap.objs.size + 1) DK := l1b.2.2
  have hd3 : @Ne Nat (s1.heap.objs.size + 1) XA := o1a.2
  unfold Stop
  refine iter_rangeUnr (n := 3) (by rfl) hR (by decide) (by rfl) F3 NN ?_
  intro I hI
  have hI1 : @LT.lt Nat _ DK I := hI _ (.head _)
  have hI2 : @LT.lt Nat _ XA I := hI _ (.tail _ (.head _))
  have hI3 : @LT.lt Nat _ (s1.heap.objs.size + 1) I := hI _ (.tail _ (.tail _ (.head _)))
  refine range_inv [Str.ofString "flags", Str.ofString "pairs", Str.ofString "spec"] (fun i nx => ∃ k t', nx = [(DK, deckO XA k t' 0), (XA, listOf ys.toArray ys.length), (s1.heap.objs.size + 1, oC)] ∧ 0 ≤ k ∧ k ≤ 30 * (i : Int)) ?start ?turn ?done
  case start => exact ⟨0, tkD, rfl, by omega, by omega⟩
  case turn =>
    rintro i nx t u h tk hi5 ⟨k, t5, rfl, hk0, hk1⟩ F5 N5
    (try k_fold)
    k_steps
    unfold Stop
    refine LCg.CompSrc.range (by rfl) (by k_asm) (by k_asm) (by assumption) (small_one (by omega) (by omega) (by omega) (by omega)) (rangeSize_nat _ _) (by rw [PySem.sizeLine_eq]; omega) ?_
    intro g''
    refine' comp_deck (d := DK) (xa := XA) (cd := 0) (One (Str.ofString "*^@")) ?kU ?turn2 ?fin2
    case kU => k_updF
    case turn2 =>
      intro k t2 v Ia oI C oC2 D m₂ ys2 h tk E' hk0 hk1 hC hx F5 N5 off ne
      (try dsimp only at N5 off)
      simp only [LCg.Off3, and_true] at off
      (try k_fold)
      k_steps
      exact one_item (by assumption) (by have e5 : (Str.ofString "*^@").cps.size = 3 := by decide +kernel
                                         omega)
    case fin2 =>
      intro ys2 zz k2 t2 hz hl hgood hk20 hk21
      dsimp only
      k_steps
      refine join_strs 1 (News.isList (by k_asm) (by k_mem)) hz (fun q hq => by obtain ⟨c, _, rfl⟩ := hgood q hq; exact Nat.le_refl _) (by omega) (by decide) ?_
      intro _ _
      have hov := over_join hgood (by omega)
      generalize PySem.Txt.join (Str.ofString "") zz = fl at hov
      k_steps
      rename_i hqa FX NX tkx l ws cap tups ps n5 t25 hqb tkb hdt hdr hpl hn1 hn2 hqc F6 N6
      have hgp := drawn_good hdr
      have hsl := spec_len (f := fl) hov.1 hpl (drawn_short hdr)
      have hs1 := hsl.1
      have hs2 := hsl.2
      have e1 := flags_spec (over_flag hov) hgp
      have e2 := codes_spec (over_flag hov) hgp
      unfold specOf at e1 e2
      have hok := drawn_ok hdr
      have hwl := hdt.length
      rw [pairDat_len] at hwl
      unfold Stop
      refine LCp.SrcLP.ledger (by rfl) F6 N6 (.head _) (by rw [PySem.sizeLine_eq, List.size_toArray]; omega) ?_
      intro g3
      refine comp_pairsP hdt (fun p hp => .tail _ (.tail _ (.tail _ (.tail _ (.tail _ (.tail _ hp)))))) (.inr ⟨_, .head _, rfl, _, rfl⟩) ?turn3 ?fin3
      case turn3 =>
        intro c p tc tp Ia oI C oC3 D m₂ ys3 h tk E' hcp hC hx hx2 F7 N7 off
        have hcl := drawn_short hdr (c, p) hcp
        dsimp only at hcl
        have hcl2 : c.length ≤ 4 ∧ p.length ≤ 4 := by rw [Str.length_append] at hcl; omega
        have hc1 := hcl2.1
        have hc2 := hcl2.2
        (try k_fold)
        k_steps
        exact LCg.CompEnd.intro (by k_asm) (by k_asm) _ (fun p hp => hp) off (.inr ⟨_, .head _, rfl, _, rfl⟩) ⟨rfl, _, rfl⟩
      case fin3 =>
        intro ys3 hz3
        dsimp only
        k_steps
        refine join_strs 4 (News.isList (by k_asm) (by k_mem)) hz3 (fun q hq => by obtain ⟨r, hr, rfl⟩ := List.mem_map.mp hq; exact drawn_short hdr r hr) (by rw [List.length_map]; omega) (by decide) ?_
        intro _ _
        have hf3 : fl.length ≤ 3 := hov.1
        k_steps
        refine cmp_fw ?_
        k_steps
        refine beats_end (k' := n5) (by k_asm) (by k_asm) (.tail _ (.tail _ (.tail _ (.tail _ (.head _))))) (.tail _ (.tail _ (.tail _ (.tail _ (.tail _ (.head _)))))) (.tail _ (.tail _ (.tail _ (.tail _ (.tail _ (.tail _ (.head _))))))) (.tail _ (.tail _ (.tail _ (.tail _ (.tail _ (.tail _ (.tail _ (.head _)))))))) hI1 hI2 hI3 ?_ (by omega) (by omega)
        intro z h1 h2
        have z1 : z ≠ Str.ofString "spec" := by intro e; rw [e] at h2; exact absurd h2 (by decide +kernel)
        have z2 : z ≠ Str.ofString "pairs" := by intro e; rw [e] at h2; exact absurd h2 (by decide +kernel)
        have z3 : z ≠ Str.ofString "flags" := by intro e; rw [e] at h2; exact absurd h2 (by decide +kernel)
        rw [if_neg z1, if_neg z2, if_neg z3, if_neg h1, if_neg (by rw [h2]; exact Bool.false_ne_true)]
  case done =>
    rintro nx u h tk ⟨k, t5, rfl, hk0, hk1⟩ F5 N5
    clear hI hI1 hI2 hI3 hR F3
    (try k_fold)
    k_steps
    rename_i ti tdx hq10 FX1 NX1 la lb gi Li hq9 BI XI TI lf2 lf1 lf0 qka eka tka rd hq8 ro0 lor hsr lc hq7 Gc kXa od hq6 oo0 loo hso ld TD hq5 le hq4 hq3 hq2 FX2 NX2 r tA t2A hq1 tkB hr0 hr1 FX3 NX3 hq0 tkC t1 u1 v1 hR2 F4 N4 hkeep2
    clear FX1 NX1 BI XI TI lf2 lf1 lf0 lifted FX2 NX2 FX3 NX3 Gc hkeep2 kXa
    have NN2 : News s1.heap s1.heap.objs.size hq0 [(rd, ro0), (od, oo0), (DK, deckO XA (k + 1) t2A 0), (ti, instObj 99 tdx), (tdx, tabO w1.params rd (tka + 1)), (XA, listOf ys.toArray ys.length), (s1.heap.objs.size + 1, oC)] := cb_drop N4 (by
      intro p hp
      simp only [List.mem_cons, List.not_mem_nil, or_false] at hp ⊢
      rcases hp with h | h | h | h | h | h | h <;> simp [h])
    clear N4
    unfold Stop
    refine iter_rangeUnr (n := (r - 0).toNat) (by rfl) hR2 (small_one (by omega) (by omega) (by omega) (by omega)) (rangeSize_nat _ _) F4 NN2 ?_
    intro I hI
    have hI1 : @LT.lt Nat _ rd I := hI _ (.head _)
    have hI2 : @LT.lt Nat _ od I := hI _ (.tail _ (.head _))
    have hI3 : @LT.lt Nat _ DK I := hI _ (.tail _ (.tail _ (.head _)))
    have hI4 : @LT.lt Nat _ ti I := hI _ (.tail _ (.tail _ (.tail _ (.head _))))
    have hI5 : @LT.lt Nat _ tdx I := hI _ (.tail _ (.tail _ (.tail _ (.tail _ (.head _)))))
    have hI6 : @LT.lt Nat _ XA I := hI _ (.tail _ (.tail _ (.tail _ (.tail _ (.tail _ (.head _))))))
    have hI7 : @LT.lt Nat _ (s1.heap.objs.size + 1) I := hI _ (.tail _ (.tail _ (.tail _ (.tail _ (.tail _ (.tail _ (.head _)))))))
    refine range_inv [Str.ofString "name"] (TabJ PP w1 rd od DK XA ti tdx (s1.heap.objs.size + 1) ys oC (tka + 1)) ?start3 ?turn3 ?done3
    case start3 => exact ⟨ro0, oo0, [], [], _, _, [], rfl, hsr, hso, .nil, by simp, by simp, by omega, by omega, by simp, by simp, by simp, by simp⟩
    case turn3 =>
      rintro i nx t u h tk hi7 ⟨ro, oo, rkv, okv, kk, t', tups, rfl, hdr, hdo, hrel, hlr, hlo, hk0, hk1, ho1, ho2, ho3, hcls⟩ F5 N5
      clear hI F4 hR2 hsr hso
      (try k_fold)
      k_steps
      all_goals (refine' table_end (by k_asm) (by k_asm) rfl hI1 hI2 hI3 hI4 hI5 hI6 hI7 (by omega) (by omega) ?_ (by assumption) (by assumption) (item_ok (by assumption) (by assumption)) (by first | exact p_ok | exact beat_ok (by omega)) hrel hlr hlo (by omega) (by omega) ho1 ho2 ho3 hcls)
      all_goals (
        intro z h1 h2
        have z1 : z ≠ Str.ofString "name" := by intro e; rw [e] at h2; exact absurd h2 (by decide +kernel)
        rw [if_neg z1, if_neg h1, if_neg (by rw [h2]; exact Bool.false_ne_true)])
    case done3 =>
      rintro nx u h tk ⟨ro, oo, rkv, okv, kk, t', tups, rfl, hdr, hdo, hrel, hlr, hlo, hk0, hk1, ho1, ho2, ho3, hcls⟩ F5 N5
      clear hI F4 hR2 hsr hso hI1 hI2 hI3 hI4 hI5 hI6 hI7
      (try k_fold)
      k_steps
      unfold Stop
      refine KStt.kst_text (σ := Unit) (fun _ => (rd, ro) :: (od, oo) :: (DK, deckO XA kk t' 0) :: (ti, instObj 99 tdx) :: (tdx, tabO w1.params rd (tka + 1)) :: (XA, listOf ys.toArray ys.length) :: (s1.heap.objs.size + 1, oC) :: tups) (fun _ => []) (fun _ => True) [Str.ofString "command"] (fun _ _ => True) () (by rfl) (by k_asm) (by k_asm) trivial (by intro p hp; cases hp) trivial ?turn4 ?done4
      case turn4 =>
        intro c pre post n tn u h tk own _ hoff _ _ F6 N6
        have N7 : News s1.heap s1.heap.objs.size h ((rd, ro) :: (od, oo) :: (DK, deckO XA kk t' 0) :: (ti, instObj 99 tdx) :: (tdx, tabO w1.params rd (tka + 1)) :: (XA, listOf ys.toArray ys.length) :: (s1.heap.objs.size + 1, oC) :: (tups ++ own)) := N6
        clear N6
        try clear N5
        (try k_fold)
        rcases hrel.at (⟨#[n]⟩ : Str) with ⟨hv1, hv2⟩ | ⟨sp, ci, cdx, s1', s2', s3', s4', s5', s6', hv1, hv2, hc1, hc2, hx1, hx2⟩
        · have hs2 : (valueAt okv (⟨#[n]⟩ : Str)).isSome = false := by rw [hv2]; rfl
          k_steps
          refine' kst_end () (by k_asm) (by k_asm) (fun p hp => ?_) (fun p hp => ?_) rfl trivial (by intro p hp; cases hp) ?_ trivial
          · exact List.mem_append.mpr (.inl hp)
          · exact (List.mem_append.mpr (.inr hp) : p ∈ ((rd, ro) :: (od, oo) :: (DK, deckO XA kk t' 0) :: (ti, instObj 99 tdx) :: (tdx, tabO w1.params rd (tka + 1)) :: (XA, listOf ys.toArray ys.length) :: (s1.heap.objs.size + 1, oC) :: tups) ++ own)
          · intro z h1 _ h2
            have z1 : z ≠ Str.ofString "command" := by intro e; rw [e] at h2; exact absurd h2 (by decide +kernel)
            rw [if_neg z1, if_neg h1]
            exact if_neg (by rw [h2]; exact Bool.false_ne_true)
        · have hs2 : (valueAt okv (⟨#[n]⟩ : Str)).isSome = true := by rw [hv2]; rfl
          k_steps
          refine' kst_end () (by k_asm) (by k_asm) (fun p hp => ?_) (fun p hp => ?_) rfl trivial (by intro p hp; cases hp) ?_ trivial
          · exact .tail _ (.tail _ (List.mem_append.mpr (.inl hp) : p ∈ ((rd, ro) :: (od, oo) :: (DK, deckO XA kk t' 0) :: (ti, instObj 99 tdx) :: (tdx, tabO w1.params rd (tka + 1)) :: (XA, listOf ys.toArray ys.length) :: (s1.heap.objs.size + 1, oC) :: tups) ++ own))
          · exact .tail _ (.tail _ (List.mem_append.mpr (.inr hp) : p ∈ ((rd, ro) :: (od, oo) :: (DK, deckO XA kk t' 0) :: (ti, instObj 99 tdx) :: (tdx, tabO w1.params rd (tka + 1)) :: (XA, listOf ys.toArray ys.length) :: (s1.heap.objs.size + 1, oC) :: tups) ++ own))
          · intro z h1 _ h2
            have z1 : z ≠ Str.ofString "command" := by intro e; rw [e] at h2; exact absurd h2 (by decide +kernel)
            rw [if_neg z1, if_neg h1]
            exact if_neg (by rw [h2]; exact Bool.false_ne_true)
      case done4 =>
        intro c u h tk _ _ F6 N6
        have N7 : News s1.heap s1.heap.objs.size h ((rd, ro) :: (od, oo) :: (DK, deckO XA kk t' 0) :: (ti, instObj 99 tdx) :: (tdx, tabO w1.params rd (tka + 1)) :: (XA, listOf ys.toArray ys.length) :: (s1.heap.objs.size + 1, oC) :: tups) := N6
        clear N6
        try clear N5
        (try k_fold)
        k_steps
        rename_i D1 hq1 tkq1 vs1 ss1 c1 hS1 hP1 hT1 lA Gc kX kF kN D2 hq2 tkq2 vs2 ss2 c2 F9 N9 hS2 hP2 hT2 lB
        have e : ss1 = ss2 := sorted_one hT1 hT2 (hP1.trans (by rw [hrel.keys]; exact hP2.symm))
        subst e
        unfold Stop
        refine strs_eq N9 (.tail _ (.head _)) (.head _) hS1 hS2 (fun x hx => hrel.oks x (hP1.mem_iff.mp hx |> fun y => by rw [← hrel.keys]; exact y)) (by ke_room) ?_
        k_steps)
end
end Mine
set_option maxRecDepth 100000 in
theorem PySem.Challenge.cw_ok0037_01_holds : PySem.Challenge.rw_ok0037_01.Holds := by
  exact Mine.law_walk
#print axioms PySem.Challenge.cw_ok0037_01_holds
