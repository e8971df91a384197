/- A text of the claim: AmCode, AmCall, AmCall2, AmSh, AmAlias, AmDefer, AmSCall, AmExt, AmFinal, AmArgs. -/
import Derived.Test.YtmgkfcdmpbcmkaaGreatDoorAmE
import Derived.Recover
import Derived.Lib.Bytealg
import Derived.Laws.StandIn
import Derived.Below
import Derived.Lib.Join
import Derived.ProofKit
import Derived.OpenShut
import Derived.WideKeyArgs
import Derived.Lib.LaidTab
/- The abstract machine against the model: code. -/
namespace Go.Am

variable {P : Program}

def exitOf : Nat → Exit
  | 0 => .normal
  | 1 => .ret
  | n + 2 => .exit n

def codeOK (P : Program) (G : Nat) : Code → List Hint → Bool
  | .region _ ops draw, hs => ops.toList.all (operOK G) && cond draw (match hs.headD .dup with | .plan ms ks => planOK P ops ms ks | _ => true) true
  | .seq a b, hs => codeOK P G a hs && codeOK P G b (hs.drop (nh a))
  | .cond c a b, hs => glob G c && (codeOK P G a hs.tail && codeOK P G b (hs.tail.drop (nh a)))
  | .block _ b, hs => codeOK P G b hs
  | .loop b, hs => codeOK P G b hs.tail
  | _, _ => true

structure PostK (β : Type) (μ : Inj) (h : AHeap) (w : World) (a : Act) (ws : List Nat) (r : Res β) (K : Nat → List AV → AM β) (Q : Exit → Act → World → Prop) : Prop where
  go : ∀ n μ' env' h' a' w', EnvRel μ' env' a' → Rel μ' h' w' → Ext μ h w μ' h' w' → Keeps ws a a' → K n env' h' = r → Q (exitOf n) a' w'
  pan : ∀ μ' x v h' a' w', r = .pan x h' → Rel μ' h' w' → Ext μ h w μ' h' w' → Keeps ws a a' → VRel μ' x v → Q (.panic [{ v, recovered := false }]) a' w'

theorem selC_spec {β : Type} {e : Nat} {k : Nat → AM β} {h : AHeap} : ∀ {l : List Nat}, selC e k l h ≠ .bad → selC e k l h = k e h
  | [], hb => absurd rfl hb
  | c :: l, hb => by
    simp only [selC] at hb ⊢
    cases hc : Nat.beq e c with
    | true => rw [← Nat.eq_of_beq_eq_true hc]; rfl
    | false => rw [hc] at hb; exact selC_spec (l := l) hb

theorem ret_eq {α : Type} {a : α} {h : AHeap} : AM.ret a h = .ok a h := rfl

theorem bcond_spec {β : Type} {μ : Inj} {c : AV} {u : Value} {x y : AM β} {h : AHeap} (hv : VRel μ c u) (hb : bcond c x y h ≠ .bad) : ∃ t, c = .bool t ∧ u = .bool t ∧ bcond c x y h = (cond t x y) h := by
  cases c <;> try (exact absurd rfl hb)
  case bool t =>
    rw [VRel] at hv
    exact ⟨t, rfl, hv, rfl⟩

theorem evalK_sound {G : Nat} {C : CallOp} {N : Nat} (hmix : P.follows .mixedOrders = true) (hC : CallOK P G C) (hrec : ∀ h, C recId [] h = .bad) : ∀ (c : Code) (hs : List Hint) (β : Type) (env : List AV) (K : Nat → List AV → AM β) (h : AHeap) (r : Res β) (μ : Inj) (w : World) (a : Act) (Q : Exit → Act → World → Prop),
    codeOK P G c hs = true → evalK P C (loopN N) c hs β env K h = r → r ≠ .bad → EnvRel μ env a → Rel μ h w → GlobOK G μ → PostK β μ h w a (wrt c) r K Q → c.wp P Q a w := by
  intro c
  induction c with
  | skip =>
    intro hs β env K h r μ w a Q hok e hb he hr hg hp
    exact wp_skip (hp.go 0 μ env h a w he hr Ext.refl (Keeps.refl _ _) e)
  | region id ops draw =>
    intro hs β env K h r μ w a Q hok e hb he hr hg hp
    simp only [codeOK, Bool.and_eq_true] at hok
    have hok1 : ∀ o ∈ ops.toList, operOK G o = true := List.all_eq_true.1 hok.1
    have hp' : Post β μ h w a (wrOps ops.toList) r (fun env' h' => K 0 env' h' = r) (Q .normal) (fun v => Q (.panic [{ v, recovered := false }])) :=
      ⟨fun μ' env' h' a' w' q1 q2 q3 q4 q5 => hp.go 0 μ' env' h' a' w' q1 q2 q3 q4 q5, fun μ' x v h' a' w' q1 q2 q3 q4 q5 => hp.pan μ' x v h' a' w' q1 q2 q3 q4 q5⟩
    cases draw with
    | false =>
      refine wp_region ?_
      exact evalOps_sound hC hrec hok1 hb _ env μ h w a he hr hg (by simpa [evalK] using e) hp'
    | true =>
      simp only [evalK, cond] at e
      cases hh : hs.headD .dup with
      | dup => rw [hh] at e; exact absurd e.symm hb
      | keep ts => rw [hh] at e; exact absurd e.symm hb
      | plan ms ks =>
        rw [hh] at e
        have hplan := hok.2
        simp only [cond, hh] at hplan
        exact evalD_sound hmix hplan hok1 hC hrec hb he hr hg e hp'
  | seq x y ihx ihy =>
    intro hs β env K h r μ w a Q hok e hb he hr hg hp
    simp only [codeOK, Bool.and_eq_true] at hok
    simp only [evalK] at e
    refine wp_seq (ihx hs β env _ h r μ w a _ hok.1 e hb he hr hg ⟨fun n μ' env' h' a' w' q1 q2 q3 q4 q5 => ?_, fun μ' z v h' a' w' q1 q2 q3 q4 q5 => ?_⟩)
    · match n, q5 with
      | 0, q5 =>
        refine ihy _ β env' K h' r μ' w' a' Q hok.2 q5 hb q1 q2 (hg.mono q3.sub) ⟨fun n μ2 env2 h2 a2 w2 p1 p2 p3 p4 p5 => ?_, fun μ2 z v h2 a2 w2 p1 p2 p3 p4 p5 => ?_⟩
        · exact hp.go n μ2 env2 h2 a2 w2 p1 p2 (q3.trans q2 p3) ((q4.mono fun t ht => by simp [wrt, ht]).trans (p4.mono fun t ht => by simp [wrt, ht])) p5
        · exact hp.pan μ2 z v h2 a2 w2 p1 p2 (q3.trans q2 p3) ((q4.mono fun t ht => by simp [wrt, ht]).trans (p4.mono fun t ht => by simp [wrt, ht])) p5
      | 1, q5 => exact hp.go 1 μ' env' h' a' w' q1 q2 q3 (q4.mono fun t ht => by simp [wrt, ht]) q5
      | n + 2, q5 => exact hp.go (n + 2) μ' env' h' a' w' q1 q2 q3 (q4.mono fun t ht => by simp [wrt, ht]) q5
    · exact hp.pan μ' z v h' a' w' q1 q2 q3 (q4.mono fun t ht => by simp [wrt, ht]) q5
  | cond c x y ihx ihy =>
    intro hs β env K h r μ w a Q hok e hb he hr hg hp
    simp only [codeOK, Bool.and_eq_true] at hok
    obtain ⟨hoc, hox, hoy⟩ := hok
    have hcv := eval_rel he hg hoc
    simp only [evalK] at e
    cases hh : hs.headD .dup with
    | plan ms ks => rw [hh] at e; exact absurd e.symm hb
    | dup =>
      rw [hh] at e
      simp only at e
      obtain ⟨t, t1, t2, t3⟩ := bcond_spec hcv (by rw [e]; exact hb)
      rw [t3] at e
      refine wp_cond t2 ?_
      cases t with
      | true => exact ihx _ β env K h r μ w a Q hox e hb he hr hg ⟨fun n μ' env' h' a' w' q1 q2 q3 q4 q5 => hp.go n μ' env' h' a' w' q1 q2 q3 (q4.mono fun t ht => by simp [wrt, ht]) q5, fun μ' z v h' a' w' q1 q2 q3 q4 q5 => hp.pan μ' z v h' a' w' q1 q2 q3 (q4.mono fun t ht => by simp [wrt, ht]) q5⟩
      | false => exact ihy _ β env K h r μ w a Q hoy e hb he hr hg ⟨fun n μ' env' h' a' w' q1 q2 q3 q4 q5 => hp.go n μ' env' h' a' w' q1 q2 q3 (q4.mono fun t ht => by simp [wrt, ht]) q5, fun μ' z v h' a' w' q1 q2 q3 q4 q5 => hp.pan μ' z v h' a' w' q1 q2 q3 (q4.mono fun t ht => by simp [wrt, ht]) q5⟩
    | keep ts =>
      rw [hh] at e
      simp only at e
      have hnb : bcond (evalO env c) (evalK P C (loopN N) x hs.tail Ans env fun e env' => .ret (e, pickL env' ts)) (evalK P C (loopN N) y (hs.tail.drop (nh x)) Ans env fun e env' => .ret (e, pickL env' ts)) h ≠ .bad := fun h' => by
        rw [bind_bad h'] at e; exact hb e.symm
      have post : ∀ r1 : Res Ans, bcond (evalO env c) (evalK P C (loopN N) x hs.tail Ans env fun e env' => .ret (e, pickL env' ts)) (evalK P C (loopN N) y (hs.tail.drop (nh x)) Ans env fun e env' => .ret (e, pickL env' ts)) h = r1 →
          PostK Ans μ h w a (wrt x ++ wrt y) r1 (fun e env' => .ret (e, pickL env' ts)) Q := fun r1 er1 => ⟨fun n μ' env' h' a' w' q1 q2 q3 q4 q5 => by
            rw [← q5] at er1
            rw [bind_ok er1] at e
            have hs' := selC_spec (by rw [e]; exact hb)
            rw [hs'] at e
            exact hp.go n μ' _ h' a' w' (EnvRel.restore (VRels.mono q3.sub _ _ he) q4 q1) q2 q3 (q4.mono fun t ht => by simpa [wrt] using ht) e,
          fun μ' z v h' a' w' q1 q2 q3 q4 q5 => by
            rw [q1] at er1
            rw [bind_pan er1] at e
            exact hp.pan μ' z v h' a' w' e.symm q2 q3 (q4.mono fun t ht => by simpa [wrt] using ht) q5⟩
      obtain ⟨t, t1, t2, t3⟩ := bcond_spec hcv hnb
      rw [t3] at hnb
      refine wp_cond t2 ?_
      cases t with
      | true =>
        have p := post _ t3
        exact ihx _ Ans env _ h _ μ w a Q hox rfl hnb he hr hg ⟨fun n μ' env' h' a' w' q1 q2 q3 q4 q5 => p.go n μ' env' h' a' w' q1 q2 q3 (q4.mono fun t ht => by simp [ht]) q5, fun μ' z v h' a' w' q1 q2 q3 q4 q5 => p.pan μ' z v h' a' w' q1 q2 q3 (q4.mono fun t ht => by simp [ht]) q5⟩
      | false =>
        have p := post _ t3
        exact ihy _ Ans env _ h _ μ w a Q hoy rfl hnb he hr hg ⟨fun n μ' env' h' a' w' q1 q2 q3 q4 q5 => p.go n μ' env' h' a' w' q1 q2 q3 (q4.mono fun t ht => by simp [ht]) q5, fun μ' z v h' a' w' q1 q2 q3 q4 q5 => p.pan μ' z v h' a' w' q1 q2 q3 (q4.mono fun t ht => by simp [ht]) q5⟩
  | block id b ih =>
    intro hs β env K h r μ w a Q hok e hb he hr hg hp
    simp only [codeOK] at hok
    simp only [evalK] at e
    refine wp_block (ih hs β env _ h r μ w a _ hok e hb he hr hg ⟨fun n μ' env' h' a' w' q1 q2 q3 q4 q5 => ?_, fun μ' z v h' a' w' q1 q2 q3 q4 q5 => hp.pan μ' z v h' a' w' q1 q2 q3 q4 q5⟩)
    cases hn : Nat.beq n (id + 2) with
    | true =>
      rw [hn] at q5
      obtain rfl := Nat.eq_of_beq_eq_true hn
      simp only [exitOf, Exit.inBlock, if_true]
      exact hp.go 0 μ' env' h' a' w' q1 q2 q3 q4 q5
    | false =>
      rw [hn] at q5
      have hne := Nat.ne_of_beq_eq_false hn
      have := hp.go n μ' env' h' a' w' q1 q2 q3 q4 q5
      match n, this, hne with
      | 0, this, _ => exact this
      | 1, this, _ => exact this
      | n + 2, this, hne =>
        have : n ≠ id := fun e => hne (by rw [e])
        simp only [exitOf, Exit.inBlock, if_neg this]
        assumption
  | loop b ih =>
    intro hs β env K h r μ w a Q hok e hb he hr hg hp
    simp only [codeOK] at hok
    simp only [evalK] at e
    cases hh : hs.headD .dup with
    | plan ms ks => rw [hh] at e; exact absurd e.symm hb
    | dup => rw [hh] at e; exact absurd e.symm hb
    | keep ts =>
      rw [hh] at e
      simp only at e
      have key : ∀ n (vs : List AV) (h1 : AHeap) (μ1 : Inj) (w1 : World) (a1 : Act), EnvRel μ1 (restore env (wrt b) ts vs) a1 → Rel μ1 h1 w1 → Ext μ h w μ1 h1 w1 → Keeps (wrt b) a a1 →
          AM.bind (loopN n (fun vs => evalK P C (loopN N) b hs.tail Ans (restore env (wrt b) ts vs) fun e env' => .ret (e, pickL env' ts)) vs) (fun r => selC r.1 (fun e => K e (restore env (wrt b) ts r.2)) ((outs b).filter fun n => !Nat.beq n 0)) h1 = r →
          Code.rounds P b Q n a1 w1 := by
        intro n
        induction n with
        | zero => intro vs h1 μ1 w1 a1 _ _ _ _ er; exact absurd er.symm hb
        | succ n ihn =>
          intro vs h1 μ1 w1 a1 he1 hr1 hx1 hk1 er
          rw [rounds_succ]
          simp only [loopN] at er
          rw [AM.bind_assoc] at er
          simp only [AM.bind] at er
          have hnb : evalK P C (loopN N) b hs.tail Ans (restore env (wrt b) ts vs) (fun e env' => .ret (e, pickL env' ts)) h1 ≠ .bad := fun h' => by
            rw [h'] at er; exact hb er.symm
          refine ih _ Ans _ _ h1 _ μ1 w1 a1 _ hok rfl hnb he1 hr1 (hg.mono hx1.sub) ⟨fun k μ' env' h' a' w' q1 q2 q3 q4 q5 => ?_, fun μ' z v h' a' w' q1 q2 q3 q4 q5 => ?_⟩
          · rw [← q5] at er
            simp only [ret_eq] at er
            have hx2 := hx1.trans hr1 q3
            have hk2 := hk1.trans q4
            have he2 := EnvRel.restore (ts := ts) (VRels.mono hx2.sub _ _ he) hk2 q1
            match k, er with
            | 0, er => exact ihn _ h' μ' w' a' he2 q2 hx2 hk2 er
            | 1, er =>
              simp only [cond, ret_eq] at er
              have hs' := selC_spec (by rw [er]; exact hb)
              rw [hs'] at er
              exact hp.go 1 μ' _ h' a' w' he2 q2 hx2 hk2 er
            | k + 2, er =>
              simp only [Nat.beq, cond, ret_eq] at er
              have hs' := selC_spec (by rw [er]; exact hb)
              rw [hs'] at er
              exact hp.go (k + 2) μ' _ h' a' w' he2 q2 hx2 hk2 er
          · rw [q1] at er
            exact hp.pan μ' z v h' a' w' er.symm q2 (hx1.trans hr1 q3) (hk1.trans q4) q5
      exact wp_loop_rounds N (key N _ h μ w a (EnvRel.restore he (Keeps.refl _ _) he) hr Ext.refl (Keeps.refl _ _) e)
  | exit id =>
    intro hs β env K h r μ w a Q hok e hb he hr hg hp
    exact wp_exit (hp.go (id + 2) μ env h a w he hr Ext.refl (Keeps.refl _ _) e)
  | ret =>
    intro hs β env K h r μ w a Q hok e hb he hr hg hp
    exact wp_ret (hp.go 1 μ env h a w he hr Ext.refl (Keeps.refl _ _) e)
  | _ =>
    intro hs β env K h r μ w a Q hok e hb
    exact absurd e.symm hb
end Go.Am
/- The abstract machine against the model: results, functions, calls. -/
namespace Go.Am

variable {P : Program}

/- ### results -/
def resM (tmps : Array Value) : ResultVar → Sem Value
  | .tmp t => pure (tmps.getD t undef)
  | .cell a t => do loadVar t (← asAddr (tmps.getD a undef))

theorem ldT_sound {μ : Inj} {h : AHeap} {w : World} (hr : Rel μ h w) {t : TypeId} {p : AV} {u : Value} (hp : VRel μ p u) (hb : ldT P t p h ≠ .bad) : ∃ v x, ldT P t p h = .ok v h ∧ (do loadVar t (← asAddr u) : Sem Value).run P w = .ok x w ∧ VRel μ v x := by
  have conv : ∀ {x}, (Instr.loadAt t u).run P w = .ok x w → (∃ l, p = .ptr (some l)) → (do loadVar t (← asAddr u) : Sem Value).run P w = .ok x w := fun hx hl => by
    obtain ⟨l, rfl⟩ := hl
    obtain ⟨C, d, S, _, rfl⟩ := hp
    simpa [Instr.loadAt, Instr.sureAddr, asAddr] using hx
  unfold ldT at *
  rcases ht : isAggT P t with _ | b
  · rw [ht] at hb; exact absurd rfl hb
  · rw [ht] at hb
    cases b with
    | true =>
      simp only at hb ⊢
      cases hc : Nat.ble 1 (P.cellsOf t) with
      | false => rw [hc] at hb; exact absurd rfl hb
      | true =>
        rw [hc] at hb
        simp only [cond] at hb ⊢
        obtain ⟨v, x, e1, e2, e3⟩ := ldN_sound hr ht (Nat.le_of_ble_eq_true hc) hp hb
        refine ⟨v, x, e1, conv e2 ?_, e3⟩
        unfold ldN at hb
        split at hb
        · exact ⟨_, rfl⟩
        · exact absurd rfl hb
    | false =>
      obtain ⟨v, x, e1, e2, e3⟩ := ld_sound hr ht hp hb
      refine ⟨v, x, e1, conv e2 ?_, e3⟩
      simp only at hb
      unfold ld at hb
      split at hb
      · exact ⟨_, rfl⟩
      · exact absurd rfl hb

theorem results1_sound {μ : Inj} {h : AHeap} {w : World} (hr : Rel μ h w) {env : List AV} {a : Act} (he : EnvRel μ env a) {rv : ResultVar} (hb : results1 P env rv h ≠ .bad) : ∃ v x, results1 P env rv h = .ok v h ∧ (resM a.tmps rv).run P w = .ok x w ∧ VRel μ v x := by
  cases rv with
  | tmp t => exact ⟨_, _, rfl, rfl, he.getD t⟩
  | cell p t => exact ldT_sound hr (he.getD p) hb

theorem resultsL_sound {μ : Inj} {h : AHeap} {w : World} (hr : Rel μ h w) {env : List AV} {a : Act} (he : EnvRel μ env a) {f : ResultVar → Sem Value} (hf : ∀ rv, f rv = resM a.tmps rv) : ∀ {l : List ResultVar}, resultsL P env l h ≠ .bad →
    ∃ vs xs, resultsL P env l h = .ok vs h ∧ (l.mapM f).run P w = .ok xs w ∧ VRels μ vs xs
  | [], _ => ⟨[], [], rfl, rfl, rfl⟩
  | rv :: l, hb => by
    simp only [resultsL] at hb ⊢
    have hb1 : results1 P env rv h ≠ .bad := fun e => hb (bind_bad e)
    obtain ⟨v, x, e1, e2, e3⟩ := results1_sound hr he hb1
    rw [bind_ok e1] at hb ⊢
    have hb2 : resultsL P env l h ≠ .bad := fun e => hb (bind_bad e)
    obtain ⟨vs, xs, g1, g2, g3⟩ := resultsL_sound hr he hf hb2
    rw [bind_ok g1]
    refine ⟨v :: vs, x :: xs, rfl, ?_, ⟨x, xs, rfl, e3, g3⟩⟩
    simp only [List.mapM_cons, hf, Sem.run_bind, e2, Result.andThen_ok, g2, Sem.run_pure]

theorem resultsA_sound {μ : Inj} {h : AHeap} {w : World} (hr : Rel μ h w) {env : List AV} {a : Act} (he : EnvRel μ env a) {fn : Func} (hb : resultsA P fn.results.toList env h ≠ .bad) :
    ∃ v x, resultsA P fn.results.toList env h = .ok v h ∧ (results fn a.tmps).run P w = .ok x w ∧ VRel μ v x := by
  -- the model's list of results
  have model : ∀ {xs : List Value}, (∀ f : ResultVar → Sem Value, (∀ rv, f rv = resM a.tmps rv) → (fn.results.toList.mapM f).run P w = .ok xs w) →
      (results fn a.tmps).run P w = .ok (if h : xs.toArray.size = 1 then xs.toArray[0] else .tuple xs.toArray) w := fun {xs} hx => by
    unfold results
    rw [show fn.results = ⟨fn.results.toList⟩ from rfl, List.mapM_toArray]
    simp only [Sem.run_bind, Sem.run_map]
    rw [hx _ (fun rv => by cases rv <;> rfl)]
    rfl
  have shape : (∃ rv, fn.results.toList = [rv]) ∨ (resultsA P fn.results.toList env = AM.bind (resultsL P env fn.results.toList) (fun vs => .ret (.tuple vs)) ∧ ∀ rv, fn.results.toList ≠ [rv]) := by
    rcases fn.results.toList with _ | ⟨rv, _ | ⟨r2, l⟩⟩
    · exact .inr ⟨rfl, by simp⟩
    · exact .inl ⟨rv, rfl⟩
    · exact .inr ⟨rfl, by simp⟩
  rcases shape with ⟨rv, hl⟩ | ⟨hsh, hne⟩
  · rw [hl] at model hb ⊢
    simp only [resultsA] at hb ⊢
    obtain ⟨v, x, e1, e2, e3⟩ := results1_sound hr he hb
    refine ⟨v, x, e1, ?_, e3⟩
    have := model (xs := [x]) fun f hf => by simp only [List.mapM_cons, List.mapM_nil, hf, Sem.run_bind, e2, Result.andThen_ok, Sem.run_pure]
    simpa using this
  · rw [hsh] at hb ⊢
    have hb1 : resultsL P env fn.results.toList h ≠ .bad := fun e => hb (bind_bad e)
    obtain ⟨vs, xs, g1, _, g3⟩ := resultsL_sound hr he (f := resM a.tmps) (fun _ => rfl) hb1
    have hm := model (xs := xs) fun f hf => by
      obtain ⟨vs', xs', g1', g2', g3'⟩ := resultsL_sound hr he hf hb1
      have : f = resM a.tmps := funext hf
      subst this
      obtain ⟨_, _, _, q2, _⟩ := resultsL_sound hr he (f := resM a.tmps) (fun _ => rfl) hb1
      assumption
    refine ⟨.tuple vs, .tuple xs.toArray, by rw [bind_ok g1]; rfl, ?_, ⟨_, rfl, by simpa using g3⟩⟩
    rw [hm]
    have hlen : xs.length = fn.results.toList.length := by
      have h1 := g3.length
      have : ∀ {l : List ResultVar} {vs : List AV} {h' : AHeap}, resultsL P env l h = .ok vs h' → vs.length = l.length := by
        intro l
        induction l with
        | nil => intro vs h' e; cases e; rfl
        | cons rv l ih =>
          intro vs h' e
          simp only [resultsL] at e
          rcases h1 : results1 P env rv h with ⟨v, h2⟩ | ⟨v, h2⟩ | _
          · obtain ⟨v', x', e1, _⟩ := results1_sound (P := P) hr he (rv := rv) (by rw [h1]; simp)
            rw [h1] at e1; cases e1
            rw [bind_ok h1] at e
            rcases h3 : resultsL P env l h with ⟨v3, h4⟩ | ⟨v3, h4⟩ | _
            · rw [bind_ok h3] at e; cases e; simp [ih h3]
            · rw [bind_pan h3] at e; cases e
            · rw [bind_bad h3] at e; cases e
          · rw [bind_pan h1] at e; cases e
          · rw [bind_bad h1] at e; cases e
      rw [← h1, this g1]
    have : ¬ (xs.toArray.size = 1) := fun h1 => by
      simp at h1
      rw [hlen] at h1
      rcases hl : fn.results.toList with _ | ⟨rv, _ | ⟨r2, l⟩⟩
      · rw [hl] at h1; simp at h1
      · exact hne rv hl
      · rw [hl] at h1; simp at h1
    rw [dif_neg this]
end Go.Am
/- The abstract machine against the model: functions, calls. -/
namespace Go.Am

variable {P : Program}

theorem VRels.replicate {μ : Inj} : ∀ n, VRels μ (List.replicate n undefA) (List.replicate n undef)
  | 0 => rfl
  | n + 1 => ⟨_, _, rfl, undef_rel μ, VRels.replicate n⟩

theorem evalFn_sound {G : Nat} {C : CallOp} {N : Nat} (hmix : P.follows .mixedOrders = true) (hC : CallOK P G C) (hrec : ∀ h, C recId [] h = .bad) {f : FuncId} {fn : Func} {c : Code} {hs : List Hint} (hf : P.funcs[f]? = some fn) (hbody : fn.body = some c) (hok : codeOK P G c hs = true)
    {μ : Inj} {h : AHeap} {w : World} {as : List AV} {vs : Array Value} (hr : Rel μ h w) (hg : GlobOK G μ) (ha : VRels μ as vs.toList) (hb : evalFn P C (loopN N) fn hs as h ≠ .bad) :
    Calls P f vs w fun
      | .returned v, w' => RetOf μ h w (evalFn P C (loopN N) fn hs as h) v w'
      | .panicked chain, w' => ∃ v, chain = [{ v, recovered := false }] ∧ PanOf μ h w (evalFn P C (loopN N) fn hs as h) v w'
      | .outgrown, _ => False := by
  have hlen : as.length = vs.size := by have := ha.length; rw [Array.length_toList] at this; exact this
  have he : EnvRel μ (as ++ List.replicate (fn.ntmps - as.length) undefA) { tmps := vs ++ Array.replicate (fn.ntmps - vs.size) undef, defers := [] } := by
    show VRels μ _ (vs ++ Array.replicate (fn.ntmps - vs.size) undef).toList
    rw [Array.toList_append, Array.toList_replicate, hlen]
    exact ha.append (VRels.replicate _)
  have hb' := hb
  refine calls_of_wp hf hbody ?_
  generalize hres : evalFn P C (loopN N) fn hs as h = r at *
  have hres' := hres
  simp only [evalFn, hbody] at hres'
  refine evalK_sound hmix hC hrec c hs AV _ _ h r μ w _ _ hok hres' hb he hr hg ⟨fun n μ' env' h' a' w' q1 q2 q3 q4 q5 => ?_, fun μ' z v h' a' w' q1 q2 q3 q4 q5 => ?_⟩
  · have fin : ∀ n, n ≤ 1 → (cond (Nat.ble n 1) (resultsA P fn.results.toList env') .bad : AM AV) h' = r → a'.defers = [] ∧ ∃ v, (results fn a'.tmps).run P w' = .ok v w' ∧ RetOf μ h w r v w' := fun n hn q5 => by
      rw [show Nat.ble n 1 = true from by simpa using hn] at q5
      simp only [cond] at q5
      obtain ⟨v, x, e1, e2, e3⟩ := resultsA_sound (P := P) q2 q1 (fn := fn) (by rw [q5]; exact hb)
      exact ⟨q4.defers, x, e2, v, h', μ', by rw [← q5]; exact e1, q2, q3, e3⟩
    match n, q5 with
    | 0, q5 => exact fin 0 (by omega) q5
    | 1, q5 => exact fin 1 (by omega) q5
    | n + 2, q5 => exact absurd q5.symm hb
  · exact ⟨q4.defers, v, rfl, z, h', μ', q1, q2, q3, q5⟩

/-- what is asked of the overrides -/
def SpecialOK (P : Program) (G : Nat) (X : Special) : Prop := (∀ C Lp, X C Lp recId = none) ∧ ∀ C N, CallOK P G C → (∀ h, C recId [] h = .bad) → ∀ f g, X C (loopN N) f = some g →
  ∀ {μ : Inj} {h : AHeap} {w : World} {as : List AV} {vs : Array Value}, Rel μ h w → GlobOK G μ → VRels μ as vs.toList → g as h ≠ .bad → Meets P μ h w (g as h) ((callFunc f vs).run P w)
/-- what is asked of the program -/
structure ProgOK (P : Program) (G : Nat) (X : Special) (H : FuncId → List Hint) : Prop where
  mix : P.follows .mixedOrders = true
  noRec : P.funcs[recId]? = none
  name : ∀ (f : FuncId) (fn : Func) (c : Code), P.funcs[f]? = some fn → fn.body = some c → fn.name ≠ "runtime.NumGoroutine"
  code : ∀ (f : FuncId) (fn : Func) (c : Code), P.funcs[f]? = some fn → fn.body = some c → codeOK P G c (H f) = true
  special : SpecialOK P G X

theorem callN_sound {G : Nat} {X : Special} {H : FuncId → List Hint} (ok : ProgOK P G X H) : ∀ n, CallOK P G (callN P X H n) ∧ ∀ h, callN P X H n recId [] h = .bad
  | 0 => ⟨fun _ _ _ _ hb => absurd rfl hb, fun _ => rfl⟩
  | n + 1 => by
    obtain ⟨ih1, ih2⟩ := callN_sound ok n
    constructor
    · intro μ h w f as vs hne hr hg ha hb
      simp only [callN] at hb ⊢
      rcases hx : X (callN P X H n) (loopN n) f with _ | g
      · rw [hx] at hb
        simp only at hb ⊢
        rcases hf : P.funcs[f]? with _ | fn
        · rw [hf] at hb; exact absurd rfl hb
        · rw [hf] at hb
          simp only at hb ⊢
          rcases hbody : fn.body with _ | c
          · simp only [evalFn, hbody] at hb; exact absurd rfl hb
          · have hcall : (callFunc f vs).run P w = .ok (.enter f vs) w := by
              have hn := ok.name f fn c hf hbody
              simp [callFunc, hf, hbody, hn]
            rw [hcall]
            exact evalFn_sound ok.mix ih1 ih2 hf hbody (ok.code f fn c hf hbody) hr hg ha hb
      · rw [hx] at hb
        exact ok.special.2 _ n ih1 ih2 f g hx hr hg ha hb
    · intro h
      simp only [callN]
      rw [ok.special.1, ok.noRec]
      rfl
end Go.Am
/- Shallow combinators: what the evaluator's parts unfold to once the types are looked up. -/
namespace Go.Am

def pickA (c a b : AV) : AM AV := match c with
  | .bool t => .ret (cond t a b)
  | _ => .bad
def boxA (x : AV) : AM AV := match x.cells? with
  | some cs => nw cs
  | none => .bad
def fillB (cells : List AV) : List (Nat × Nat × AV) → Option (List AV)
  | [] => some cells
  | (off, size, v) :: rest => match v.cells? with
    | none => none
    | some vs => cond (Nat.beq vs.length size && Nat.ble (off + vs.length) cells.length) (fillB (over cells off vs) rest) none
def bld (cells : List AV) (ps : List (Nat × Nat × AV)) : AM AV := ofOpt (match fillB cells ps with
  | some cs => some (.agg cs)
  | none => none)
def bsl (cells : List AV) (ps : List (Nat × Nat × AV)) (n es : Nat) : AM AV := match fillB cells ps with
  | some cs => nwRow cs n es
  | none => .bad
def nilC (x : AV) : AM AV := match x with
  | .ptr (some a) => .ret (.ptr (some a))
  | .func (.func f) a b => .ret (.func (.func f) a b)
  | _ => .bad
def extA (t : AV) (i : Nat) : AM AV := match t with
  | .tuple vs => match vs[i]? with
    | some v => .ret v
    | none => .bad
  | _ => .bad
def panA (x : AV) : AM AV := match x with
  | .iface t v => fun h => .pan (.iface t v) h
  | _ => .bad
def guardA (g : AV) (want : Bool) (m : AM AV) : AM AV := match (match g with
    | .bool b => some (b == want)
    | .tuple [] => some false
    | _ => none : Option Bool) with
  | some b => cond b m (.ret undefA)
  | none => .bad
def sameS (m : AM AV) (v : AV) (h : AHeap) : Bool := match m h with
  | .ok u _ => u.beq v
  | _ => false
def lenSl (x : AV) : AM AV := fun h => match x with
  | .snil => .ok (.int .i64 0) h
  | .szero => .ok (.int .i64 0) h
  | .sl _ _ n _ => .ok (.int .i64 (Int.ofNat n)) h
  | _ => .bad
def lenStr (x : AV) : AM AV := fun h => match x with
  | .str s => .ok (.int .i64 (Int.ofNat s.length)) h
  | _ => .bad
def lenMap (x : AV) : AM AV := fun h => match mapOf h x with
  | some es => .ok (.int .i64 (Int.ofNat es.length)) h
  | none => .bad
def cpyA (es : Nat) (d x : AV) : AM AV := cond (!isStr d) (cpy es d x) .bad
def bn (P : Program) (op : BinOp) (t : TypeId) (c : Bool) (x y : AV) : AM AV := ofOpt (binA P op t c x y)
def un (op : UnOp) (x : AV) : AM AV := ofOpt (unA op x)
def heavyA (ok : Bool) (m : AM AV) {β : Type} (f : AV → AM β) : AM β := fun h => bindP ok m (fun v h' => cond (Nat.ble h.next h'.next && true) (f v h') .bad) h
def g0 (l : List AV) (k : Nat) : AV := l.getD k .top
end Go.Am
/- The evaluator once more, with the operations that only name a value left out of the chain of binds: the same function. -/
namespace Go.Am

def aliasO (P : Program) (ev : Operand → AV) (o : Oper) : Option AV := match o.guard with
  | some _ => none
  | none => match o.op with
    | .move x | .assign x => some (ev x)
    | .makeInterface t x => match P.underlying t with
      | some (.interface _) => none
      | some _ => some (.iface t (ev x))
      | none => none
    | .makeFunc fn first captured => some (.func fn (first.toList.map ev) (captured.toList.map ev))
    | _ => none

theorem aliasO_eq {P : Program} {C : CallOp} {ops : Array Oper} {env : List AV} {o : Oper} {v : AV} (h : aliasO P (evalO env) o = some v) : opA P C ops env o = .ret v := by
  unfold aliasO at h
  unfold opA
  cases hg : o.guard with
  | some g => rw [hg] at h; cases h
  | none =>
    rw [hg] at h
    simp only at h ⊢
    cases ho : o.op <;> rw [ho] at h <;> try (cases h; done)
    case move x => cases h; rfl
    case assign x => cases h; rfl
    case makeInterface t x =>
      simp only at h
      simp only [aexec]
      split at h
      · cases h
      · cases h; rename_i d h1 h2; rw [h2]; cases d <;> first | rfl | (exact absurd rfl (h1 _))
      · cases h
    case makeFunc fn a b => cases h; rfl

def evalOpsA (P : Program) (C : CallOp) (ops : Array Oper) {β : Type} : List Nat → List AV → (List AV → AM β) → AM β
  | [], env, K => K env
  | i :: is, env, K => match ops[i]? with
    | none => .bad
    | some o => match aliasO P (evalO env) o with
      | some v => evalOpsA P C ops is (putA env o.dst v) K
      | none => .bind (opA P C ops env o) fun v => evalOpsA P C ops is (putA env o.dst v) K
theorem evalOpsA_eq {P : Program} {C : CallOp} {ops : Array Oper} {β : Type} : ∀ (is : List Nat) (env : List AV) (K : List AV → AM β), evalOpsA P C ops is env K = evalOps P C ops is env K
  | [], env, K => rfl
  | i :: is, env, K => by
    simp only [evalOpsA, evalOps]
    cases ho : ops[i]? with
    | none => rfl
    | some o =>
      simp only
      cases ha : aliasO P (evalO env) o with
      | none => simp only; congr 1; funext v; exact evalOpsA_eq is _ K
      | some v => simp only; rw [aliasO_eq ha, AM.ret_bind]; exact evalOpsA_eq is _ K

def evalDA (P : Program) (C : CallOp) (ops : Array Oper) {β : Type} : List (Nat × List Nat) → Nat → List AV → List (Nat × AHeap) → List Rd → (List AV → AM β) → AM β
  | [], i, env, _, _, K => cond (Nat.beq i ops.size) (K env) .bad
  | (k, l) :: ks, i, env, hv, rd, K => match ops[i]? with
    | none => .bad
    | some o => match k with
      | 0 => match aliasO P (evalO env) o with
        | some v => evalDA P C ops ks (i + 1) (putA env o.dst v) hv rd K
        | none => bindP false (opA P C ops env o) fun v => evalDA P C ops ks (i + 1) (putA env o.dst v) hv rd K
      | 1 => fun h => bindP false (opA P C ops env o) (fun v h' => cond (chkBack P ops ⟨i, o, env, v, h.next⟩ hv l) (evalDA P C ops ks (i + 1) (putA env o.dst v) hv (⟨i, o, env, v, h.next⟩ :: rd) K h') .bad) h
      | k => fun h => bindP (Nat.beq k 3) (opA P C ops env o) (fun v h' => cond (Nat.ble h.next h'.next && chkOn P ops rd h' l) (evalDA P C ops ks (i + 1) (putA env o.dst v) ((i, h) :: hv) rd K h') .bad) h
theorem evalDA_eq {P : Program} {C : CallOp} {ops : Array Oper} {β : Type} : ∀ (ks : List (Nat × List Nat)) (i : Nat) (env : List AV) (hv : List (Nat × AHeap)) (rd : List Rd) (K : List AV → AM β), evalDA P C ops ks i env hv rd K = evalD P C ops ks i env hv rd K
  | [], i, env, _, _, K => rfl
  | (k, l) :: ks, i, env, hv, rd, K => by
    have ih : @evalDA P C ops β ks = @evalD P C ops β ks := by
      funext i env hv rd K; exact evalDA_eq ks i env hv rd K
    unfold evalDA evalD
    rw [ih]
    cases ho : ops[i]? with
    | none => rfl
    | some o =>
      match k with
      | 0 =>
        show (match aliasO P (evalO env) o with
          | some v => evalD P C ops ks (i + 1) (putA env o.dst v) hv rd K
          | none => bindP false (opA P C ops env o) fun v => evalD P C ops ks (i + 1) (putA env o.dst v) hv rd K) = bindP false (opA P C ops env o) fun v => evalD P C ops ks (i + 1) (putA env o.dst v) hv rd K
        cases ha : aliasO P (evalO env) o with
        | none => rfl
        | some v => rw [aliasO_eq ha]; rfl
      | 1 => rfl
      | k + 2 => rfl

def evalKA (P : Program) (C : CallOp) (Lp : LoopOp) : Code → List Hint → (β : Type) → List AV → (Nat → List AV → AM β) → AM β
  | .skip, _, _, env, K => K 0 env
  | .region _ ops draw, hs, _, env, K => cond draw
      (match hs.headD .dup with
        | .plan _ ks => evalDA P C ops ks 0 env [] [] (K 0)
        | _ => .bad)
      (evalOpsA P C ops (List.range ops.size) env (K 0))
  | .seq a b, hs, β, env, K => evalKA P C Lp a hs β env fun e env' => cond (Nat.beq e 0) (evalKA P C Lp b (hs.drop (nh a)) β env' K) (K e env')
  | .cond c a b, hs, β, env, K => match hs.headD .dup with
    | .dup => bcond (evalO env c) (evalKA P C Lp a hs.tail β env K) (evalKA P C Lp b (hs.tail.drop (nh a)) β env K)
    | .keep ts => .bind (bcond (evalO env c)
          (evalKA P C Lp a hs.tail Ans env fun e env' => .ret (e, pickL env' ts))
          (evalKA P C Lp b (hs.tail.drop (nh a)) Ans env fun e env' => .ret (e, pickL env' ts)))
        fun r => selC r.1 (fun e => K e (restore env (wrt a ++ wrt b) ts r.2)) (uniN (outs a) (outs b))
    | _ => .bad
  | .block id b, hs, β, env, K => evalKA P C Lp b hs β env fun e env' => cond (Nat.beq e (id + 2)) (K 0 env') (K e env')
  | .loop b, hs, _, env, K => match hs.headD .dup with
    | .keep ts => .bind (Lp (fun vs => evalKA P C Lp b hs.tail Ans (restore env (wrt b) ts vs) fun e env' => .ret (e, pickL env' ts)) (pickL env ts))
        fun r => selC r.1 (fun e => K e (restore env (wrt b) ts r.2)) ((outs b).filter fun n => !Nat.beq n 0)
    | _ => .bad
  | .exit id, _, _, env, K => K (id + 2) env
  | .ret, _, _, env, K => K 1 env
  | _, _, _, _, _ => .bad
theorem evalKA_eq {P : Program} {C : CallOp} {Lp : LoopOp} : ∀ (c : Code) (hs : List Hint) (β : Type) (env : List AV) (K : Nat → List AV → AM β), evalKA P C Lp c hs β env K = evalK P C Lp c hs β env K := by
  intro c
  induction c with
  | region id ops draw => intro hs β env K; simp only [evalKA, evalK, evalOpsA_eq, evalDA_eq]; rfl
  | seq a b iha ihb => intro hs β env K; simp only [evalKA, evalK, iha, ihb]
  | cond c a b iha ihb => intro hs β env K; simp only [evalKA, evalK, iha, ihb]; rfl
  | block id b ih => intro hs β env K; simp only [evalKA, evalK, ih]
  | loop b ih => intro hs β env K; simp only [evalKA, evalK, ih]; rfl
  | _ => intros; rfl

def evalFnA (P : Program) (C : CallOp) (Lp : LoopOp) (fn : Func) (hs : List Hint) (args : List AV) : AM AV := match fn.body with
  | none => .bad
  | some c => evalKA P C Lp c hs AV (args ++ List.replicate (fn.ntmps - args.length) undefA) fun e env => cond (Nat.ble e 1) (resultsA P fn.results.toList env) .bad
theorem evalFnA_eq {P : Program} {C : CallOp} {Lp : LoopOp} {fn : Func} {hs : List Hint} {args : List AV} : evalFnA P C Lp fn hs args = evalFn P C Lp fn hs args := by
  unfold evalFnA evalFn
  cases fn.body with
  | none => rfl
  | some c => exact evalKA_eq c hs AV _ _
end Go.Am
/- Functions that defer one closure, which recovers first of all, ahead of all else. -/
namespace Go.Am

variable {P : Program}

def noPan {α : Type} (m : AM α) : AM α := fun h => match m h with
  | .ok a h' => .ok a h'
  | _ => .bad
def defB (m : AM Unit) (e : AV → AM Unit) (r : AM AV) : AM AV := fun h => match m h with
  | .ok _ h' => AM.bind (noPan (e .nilIface)) (fun _ => r) h'
  | .pan v h' => AM.bind (noPan (e v)) (fun _ => r) h'
  | .bad => .bad
def endU : Nat → List AV → AM Unit := fun e _ => cond (Nat.ble e 1) (.ret ()) .bad
theorem endU_ok {n : Nat} (hn : n ≤ 1) (env : List AV) (h : AHeap) : endU n env h = .ok () h := by
  unfold endU
  rw [show Nat.ble n 1 = true from by simpa using hn]
  rfl

/- the data of such a function -/
structure DefData where
  ops1 : Array Oper
  t : Tmp
  d2 : Option Tmp
  g : FuncId
  caps : Array Operand
  rest : Code
  hs : List Hint
  ntmps3 : Nat
  d3 : Option Tmp
  rest3 : Code
  hs3 : List Hint

def evalDef (P : Program) (C : CallOp) (Lp : LoopOp) (fn : Func) (D : DefData) (args : List AV) : AM AV :=
  evalOpsA P C D.ops1 (List.range D.ops1.size) (args ++ List.replicate (fn.ntmps - args.length) undefA) fun env1 =>
    defB (evalKA P C Lp D.rest D.hs Unit (putA (putA env1 (some D.t) (.func (.func D.g) [] (D.caps.toList.map (evalO env1)))) D.d2 undefA) endU)
      (fun rv => evalKA P C Lp D.rest3 D.hs3 Unit (putA ((D.caps.toList.map (evalO env1)) ++ List.replicate (D.ntmps3 - (D.caps.toList.map (evalO env1)).length) undefA) D.d3 rv) endU)
      (resultsA P fn.results.toList (clearL (putA (putA env1 (some D.t) (.func (.func D.g) [] (D.caps.toList.map (evalO env1)))) D.d2 undefA) (wrt D.rest)))

structure DefOK (P : Program) (G : Nat) (fn : Func) (D : DefData) : Prop where
  body : ∃ id1 id2 o1 o2 c, fn.body = some (.seq (.region id1 D.ops1 false) (.seq (.region id2 #[o1, o2] false) D.rest)) ∧ o1.guard = none ∧ o1.op = .makeFunc (.func D.g) #[] D.caps ∧ o1.dst = some D.t ∧
    o2.guard = none ∧ o2.op = .defer c ∧ c.callee = .value (.tmp D.t) ∧ c.args = #[] ∧ o2.dst = D.d2
  inb : D.t < fn.ntmps
  gbody : ∃ fg id3 o3 c, P.funcs[D.g]? = some fg ∧ fg.name ≠ "runtime.NumGoroutine" ∧ fg.ntmps = D.ntmps3 ∧ fg.results = #[] ∧ fg.body = some (.seq (.region id3 #[o3] false) D.rest3) ∧ o3.guard = none ∧ o3.op = .call c ∧ c.callee = .builtin .recover ∧ c.args = #[] ∧ o3.dst = D.d3
  ok1 : ∀ o ∈ D.ops1.toList, operOK G o = true
  okc : ∀ x ∈ D.caps.toList, glob G x = true
  ok2 : codeOK P G D.rest D.hs = true
  ok3 : codeOK P G D.rest3 D.hs3 = true

/- how the frame below stands -/
inductive ModeV : FrameMode → AV → Prop where
  | ret : ModeV .returning .nilIface
  | pan (μ : Inj) (x : AV) (v : Value) : ModeV (.panicking [{ v, recovered := false }]) x

theorem defEnd_sound {G : Nat} {C : CallOp} {N : Nat} (hmix : P.follows .mixedOrders = true) (hC : CallOK P G C) (hrec : ∀ h, C recId [] h = .bad) {fn : Func} {D : DefData} (ok : DefOK P G fn D)
    {μ : Inj} {h : AHeap} {w : World} {caps : List AV} {vs : Array Value} {rv : AV} {u : FrameMode} (hr : Rel μ h w) (hg : GlobOK G μ) (ha : VRels μ caps vs.toList)
    (hu : (u = .returning ∧ rv = .nilIface) ∨ ∃ v, u = .panicking [{ v, recovered := false }] ∧ VRel μ rv v)
    (hb : noPan (evalKA P C (loopN N) D.rest3 D.hs3 Unit (putA (caps ++ List.replicate (D.ntmps3 - caps.length) undefA) D.d3 rv) endU) h ≠ .bad) :
    CallsD P D.g vs u w fun e u' w' => (∃ v, e = .returned v) ∧ settle u' = .returning ∧
      ∃ h' μ', noPan (evalKA P C (loopN N) D.rest3 D.hs3 Unit (putA (caps ++ List.replicate (D.ntmps3 - caps.length) undefA) D.d3 rv) endU) h = .ok () h' ∧ Rel μ' h' w' ∧ Ext μ h w μ' h' w' := by
  obtain ⟨fg, id3, o3, c, hf, hname, hnt, hres, hbody, g1, g2, g3, g4, g5⟩ := ok.gbody
  refine callsD_of_wpS hf hbody fun c₀ cs hc => ?_
  have hlen : caps.length = vs.size := by have := ha.length; rw [Array.length_toList] at this; exact this
  have he : EnvRel μ (caps ++ List.replicate (D.ntmps3 - caps.length) undefA) { tmps := vs ++ Array.replicate (fg.ntmps - vs.size) undef, defers := [] } := by
    show VRels μ _ (vs ++ Array.replicate (fg.ntmps - vs.size) undef).toList
    rw [Array.toList_append, Array.toList_replicate, hlen, hnt]
    exact ha.append (VRels.replicate _)
  refine wpS_seq (wpS_region ?_)
  have hrun : ∀ a : Act, (execOp a.eval o3).run P w = .ok .recover w := fun a => by
    simp [execOp, g2, resolve, g3, g4, invoke, builtin]
  have hwant : ∀ tm, Region.wanted o3 (yielded #[o3] tm) = true := fun tm => by simp [Region.wanted, g1]
  -- the rest
  have main : ∀ (u' : FrameMode) (x : Value), VRel μ rv x → settle u' = .returning → D.rest3.wpS P (bodyPostS P fg c₀ cs fun e u' w' => (∃ v, e = .returned v) ∧ settle u' = .returning ∧
      ∃ h' μ', noPan (evalKA P C (loopN N) D.rest3 D.hs3 Unit (putA (caps ++ List.replicate (D.ntmps3 - caps.length) undefA) D.d3 rv) endU) h = .ok () h' ∧ Rel μ' h' w' ∧ Ext μ h w μ' h' w')
      (Act.put { tmps := vs ++ Array.replicate (fg.ntmps - vs.size) undef, defers := [] } o3.dst x) ({ c₀ with mode := u' } :: cs) w := by
    intro u' x hx hset
    refine wpS_of_wp ?_
    rw [evalKA_eq] at hb ⊢
    have hnb : evalK P C (loopN N) D.rest3 D.hs3 Unit (putA (caps ++ List.replicate (D.ntmps3 - caps.length) undefA) D.d3 rv) endU h ≠ .bad := fun e => by simp [noPan, e] at hb
    have he2 : EnvRel μ (putA (caps ++ List.replicate (D.ntmps3 - caps.length) undefA) D.d3 rv) (Act.put { tmps := vs ++ Array.replicate (fg.ntmps - vs.size) undef, defers := [] } o3.dst x) := by
      rw [g5]; exact he.put _ hx
    refine evalK_sound hmix hC hrec D.rest3 D.hs3 Unit _ endU h _ μ w _ _ ok.ok3 rfl hnb he2 hr hg ⟨fun n μ' env' h' a' w' q1 q2 q3 q4 q5 => ?_, fun μ' z v h' a' w' q1 q2 q3 q4 q5 => ?_⟩
    · have fin : n ≤ 1 → noPan (evalK P C (loopN N) D.rest3 D.hs3 Unit (putA (caps ++ List.replicate (D.ntmps3 - caps.length) undefA) D.d3 rv) endU) h = .ok () h' := fun hn => by
        unfold noPan
        rw [← q5, endU_ok hn]
      have res : (results fg a'.tmps).run P w' = .ok (.tuple #[]) w' := by simp [results, hres]
      have dfs : a'.defers = [] := by rw [q4.defers]; cases o3.dst <;> rfl
      match n, q5 with
      | 0, q5 => exact ⟨dfs, u', rfl, _, res, ⟨_, rfl⟩, hset, h', μ', fin (by omega), q2, q3⟩
      | 1, q5 => exact ⟨dfs, u', rfl, _, res, ⟨_, rfl⟩, hset, h', μ', fin (by omega), q2, q3⟩
      | n + 2, q5 => exact absurd q5.symm hnb
    · exact absurd (by simp [noPan, q1]) hb
  simp only [List.size_toArray, List.length_cons, List.length_nil, List.range_succ, List.range_zero, List.nil_append, Nat.zero_add]
  simp only [wpOpsS, List.getElem?_toArray, List.getElem?_cons_zero, hwant, if_true, hrun]
  rcases hu with ⟨rfl, rfl⟩ | ⟨v, rfl, hv⟩
  · have hrd : recoverD (c₀ :: cs) = none := by simp [recoverD, hc]
    rw [hrd]
    have := main .returning .nilIface rfl rfl
    rw [show ({ c₀ with mode := FrameMode.returning } : Frame) = c₀ by rw [← hc]] at this
    exact this
  · have hrd : recoverD (c₀ :: cs) = some (v, { c₀ with mode := .panicking [{ v, recovered := true }] } :: cs) := by simp [recoverD, hc]
    rw [hrd]
    exact main (.panicking [{ v, recovered := true }]) v hv rfl

theorem evalDef_sound {G : Nat} {C : CallOp} {N : Nat} (hmix : P.follows .mixedOrders = true) (hC : CallOK P G C) (hrec : ∀ h, C recId [] h = .bad) {f : FuncId} {fn : Func} {D : DefData} (hf : P.funcs[f]? = some fn) (ok : DefOK P G fn D)
    {μ : Inj} {h : AHeap} {w : World} {as : List AV} {vs : Array Value} (hr : Rel μ h w) (hg : GlobOK G μ) (ha : VRels μ as vs.toList) (hb : evalDef P C (loopN N) fn D as h ≠ .bad) :
    Calls P f vs w fun
      | .returned v, w' => RetOf μ h w (evalDef P C (loopN N) fn D as h) v w'
      | .panicked chain, w' => ∃ v, chain = [{ v, recovered := false }] ∧ PanOf μ h w (evalDef P C (loopN N) fn D as h) v w'
      | .outgrown, _ => False := by
  obtain ⟨id1, id2, o1, o2, c, hbody, g1, g2, g3, g4, g5, g6, g7, g8⟩ := ok.body
  have hlen : as.length = vs.size := by have := ha.length; rw [Array.length_toList] at this; exact this
  have he : EnvRel μ (as ++ List.replicate (fn.ntmps - as.length) undefA) { tmps := vs ++ Array.replicate (fn.ntmps - vs.size) undef, defers := [] } := by
    show VRels μ _ (vs ++ Array.replicate (fn.ntmps - vs.size) undef).toList
    rw [Array.toList_append, Array.toList_replicate, hlen]
    exact ha.append (VRels.replicate _)
  refine calls_of_wp_defers hf hbody ?_
  generalize hres : evalDef P C (loopN N) fn D as h = r at *
  unfold evalDef at hres
  rw [evalOpsA_eq] at hres
  refine wp_seq (wp_region (evalOps_sound hC hrec ok.ok1 hb _ _ μ h w _ he hr hg hres ⟨fun μ1 env1 h1 a1 w1 q1 q2 q3 q4 q5 => ?_, fun μ1 x v h1 a1 w1 q1 q2 q3 q4 q5 => ?_⟩))
  · -- the closure, its deferral
    refine wp_seq (wp_region ?_)
    have hcaps : VRels μ1 (D.caps.toList.map (evalO env1)) (D.caps.map a1.eval).toList := by
      rw [Array.toList_map]
      have : ∀ l : List Operand, (∀ x ∈ l, glob G x = true) → VRels μ1 (l.map (evalO env1)) (l.map a1.eval) := by
        intro l
        induction l with
        | nil => intro _; rfl
        | cons x l ih => intro hl; exact ⟨_, _, rfl, eval_rel q1 (hg.mono q3.sub) (hl x (by simp)), ih fun y hy => hl y (by simp [hy])⟩
      exact this _ ok.okc
    generalize hcap : D.caps.toList.map (evalO env1) = cap at *
    generalize hcapv : D.caps.map a1.eval = capv at *
    have hfv : VRel μ1 (.func (.func D.g) [] cap) (.func (.func D.g) #[] capv) := ⟨#[], capv, rfl, rfl, hcaps⟩
    simp only [List.size_toArray, List.length_cons, List.length_nil, List.range_succ, List.range_zero, List.nil_append, Nat.zero_add, List.cons_append]
    have hw1 : ∀ tm, Region.wanted o1 (yielded #[o1, o2] tm) = true := fun tm => by simp [Region.wanted, g1]
    have hw2 : ∀ tm, Region.wanted o2 (yielded #[o1, o2] tm) = true := fun tm => by simp [Region.wanted, g4]
    simp only [wpOps, List.getElem?_toArray, List.getElem?_cons_zero, hw1, if_true]
    refine .inl ?_
    have hx1 : (execOp a1.eval o1).run P w1 = .ok (.value (.func (.func D.g) #[] capv)) w1 := by
      simp [execOp, g2, Instr.makeFunc, hcapv]
    unfold Oper.wp
    rw [hx1]
    simp only [Oper.upon_value]
    simp only [List.getElem?_cons_succ, List.getElem?_cons_zero, hw2, if_true]
    refine .inl ?_
    have hsz : fn.ntmps ≤ a1.tmps.size := by
      rw [q4.size]; simp; omega
    have hev : (a1.put o1.dst (.func (.func D.g) #[] capv)).eval (.tmp D.t) = .func (.func D.g) #[] capv := by
      have : D.t < a1.tmps.size := Nat.lt_of_lt_of_le ok.inb hsz
      simp [Act.eval, Act.put, g3, Array.getD_eq_getD_getElem?, this]
    have hx2 : (execOp (a1.put o1.dst (.func (.func D.g) #[] capv)).eval o2).run P w1 = .ok (.defer { target := .fn (.func D.g) capv, args := #[] }) w1 := by
      simp [execOp, g5, resolve, g6, g7, hev, Deferred.ofValue]
    rw [hx2]
    simp only [Oper.upon_defer]
    show D.rest.wp P (bodyPostD P fn _) _ w1
    have hd1 : a1.defers = [] := by rw [q4.defers]
    have hdd : (a1.put o1.dst (.func (.func D.g) #[] capv)).defers = [] := by rw [← hd1]; cases o1.dst <;> rfl
    rw [hdd]
    have he2 : EnvRel μ1 (putA (putA env1 (some D.t) (.func (.func D.g) [] cap)) D.d2 undefA) (Act.put { a1.put o1.dst (.func (.func D.g) #[] capv) with defers := [{ target := .fn (.func D.g) capv, args := #[] }] } o2.dst undef) := by
      rw [g8]
      refine EnvRel.put ?_ _ (undef_rel _)
      have := q1.put (some D.t) hfv
      rw [g3]
      exact this
    generalize henv2 : putA (putA env1 (some D.t) (.func (.func D.g) [] cap)) D.d2 undefA = env2 at *
    generalize ha2 : Act.put { a1.put o1.dst (.func (.func D.g) #[] capv) with defers := [{ target := .fn (.func D.g) capv, args := #[] }] } o2.dst undef = a2 at *
    have hdef2 : a2.defers = [{ target := .fn (.func D.g) capv, args := #[] }] := by rw [← ha2]; cases o2.dst <;> rfl
    -- what is done behind the body
    have behind : ∀ (μ2 : Inj) (h2 : AHeap) (a' : Act) (w2 : World) (rv : AV) (u : FrameMode), Rel μ2 h2 w2 → Ext μ1 h1 w1 μ2 h2 w2 → Keeps (wrt D.rest) a2 a' →
        ((u = .returning ∧ rv = .nilIface) ∨ ∃ v, u = .panicking [{ v, recovered := false }] ∧ VRel μ2 rv v) →
        AM.bind (noPan (evalKA P C (loopN N) D.rest3 D.hs3 Unit (putA (cap ++ List.replicate (D.ntmps3 - cap.length) undefA) D.d3 rv) endU)) (fun _ => resultsA P fn.results.toList (clearL env2 (wrt D.rest))) h2 = r →
        Leaves P fn a'.tmps (fun e w' => match e, w' with
          | .returned v, w' => RetOf μ h w r v w'
          | .panicked chain, w' => ∃ v, chain = [{ v, recovered := false }] ∧ PanOf μ h w r v w'
          | .outgrown, _ => False) a'.defers u w2 := by
      intro μ2 h2 a' w2 rv u p1 p2 p3 p4 p5
      rw [p3.defers, hdef2]
      have hnb : noPan (evalKA P C (loopN N) D.rest3 D.hs3 Unit (putA (cap ++ List.replicate (D.ntmps3 - cap.length) undefA) D.d3 rv) endU) h2 ≠ .bad := fun e => by
        rw [bind_bad e] at p5; exact hb p5.symm
      obtain ⟨fg, id3, o3, c3, hfg, hname, _, _, hbodyg, _⟩ := ok.gbody
      have hinv : (invoke (.fn (.func D.g) capv) #[]).run P w2 = .ok (.enter D.g capv) w2 := by
        simp [invoke, callFunc, hfg, hbodyg, hname]
      refine leaves_cons (f := D.g) (args := capv) ?_ hinv ((defEnd_sound hmix hC hrec ok p1 (hg.mono (p2.sub |> fun x => Inj.le_trans q3.sub x)) (VRels.mono p2.sub _ _ hcaps) p4 hnb).mono ?_)
      · rcases p4 with ⟨rfl, _⟩ | ⟨v, rfl, _⟩ <;> simp
      · rintro e u' w' ⟨⟨v, rfl⟩, hset, h3, μ3, e1, e2, e3⟩
        show Leaves P fn a'.tmps _ [] (settle u') w'
        rw [hset]
        rw [bind_ok e1] at p5
        have he3 : EnvRel μ3 (clearL env2 (wrt D.rest)) a' := EnvRel.clear (VRels.mono (Inj.le_trans p2.sub e3.sub) _ _ he2) p3
        obtain ⟨x, y, f1, f2, f3⟩ := resultsA_sound (P := P) e2 he3 (fn := fn) (by rw [p5]; exact hb)
        refine ⟨y, f2, x, h3, μ3, by rw [← p5]; exact f1, e2, (q3.trans q2 (p2.trans p1 e3)), f3⟩
    refine evalK_sound (N := N) hmix hC hrec D.rest D.hs Unit env2 endU h1 _ μ1 w1 a2 _ ok.ok2 rfl ?_ he2 q2 (hg.mono q3.sub) ⟨fun n μ2 env' h2 a' w2 p1 p2 p3 p4 p5 => ?_, fun μ2 z v h2 a' w2 p1 p2 p3 p4 p5 => ?_⟩
    · intro e
      simp only [defB] at q5
      rw [evalKA_eq D.rest, e] at q5
      exact hb q5.symm
    · have fin : n ≤ 1 → Leaves P fn a'.tmps _ a'.defers .returning w2 := fun hn => by
        refine behind μ2 h2 a' w2 .nilIface .returning p2 p3 p4 (.inl ⟨rfl, rfl⟩) ?_
        rw [← q5]
        simp only [defB]
        rw [evalKA_eq D.rest, ← p5, endU_ok hn]
      match n, p5 with
      | 0, p5 => exact fin (by omega)
      | 1, p5 => exact fin (by omega)
      | n + 2, p5 =>
        exfalso
        simp only [defB] at q5
        rw [evalKA_eq D.rest, ← p5] at q5
        exact hb q5.symm
    · refine behind μ2 h2 a' w2 z (.panicking [{ v, recovered := false }]) p2 p3 p4 (.inr ⟨v, rfl, p5⟩) ?_
      rw [← q5]
      simp only [defB]
      rw [evalKA_eq D.rest, p1]
  · show Leaves P fn a1.tmps _ a1.defers _ w1
    rw [q4.defers]
    exact ⟨v, rfl, x, h1, μ1, q1, q2, q3, q5⟩

def dummyDef : DefData := ⟨#[], 0, none, 0, #[], .skip, [], 0, none, .skip, []⟩
/- the shape of such a function, looked at -/
def defOf (fn fg : Func) (g : FuncId) (hs hs3 : List Hint) : Option DefData :=
  match fn.body, fg.body with
  | some (.seq (.region _ ops1 false) (.seq (.region _ ⟨[o1, o2]⟩ false) rest)), some (.seq (.region _ ⟨[o3]⟩ false) rest3) =>
    match o1.op, o1.dst, o2.op, o3.op with
    | .makeFunc (.func g') ⟨[]⟩ caps, some t, .defer c, .call c3 => match c.callee, c.args, c3.callee, c3.args with
      | .value (.tmp t'), ⟨[]⟩, .builtin .recover, ⟨[]⟩ =>
        cond (o1.guard.isNone && o2.guard.isNone && o3.guard.isNone && Nat.beq g g' && Nat.beq t t' && Nat.ble (t + 1) fn.ntmps && fg.results.toList.isEmpty && fg.name != "runtime.NumGoroutine")
          (some { ops1, t, d2 := o2.dst, g, caps, rest, hs, ntmps3 := fg.ntmps, d3 := o3.dst, rest3, hs3 }) none
      | _, _, _, _ => none
    | _, _, _, _ => none
  | _, _ => none

def defChk (P : Program) (G : Nat) (D : DefData) : Bool := D.ops1.toList.all (operOK G) && D.caps.toList.all (glob G) && codeOK P G D.rest D.hs && codeOK P G D.rest3 D.hs3

theorem defOf_ok {G : Nat} {fn fg : Func} {g : FuncId} {hs hs3 : List Hint} {D : DefData} (h : defOf fn fg g hs hs3 = some D) (hg : P.funcs[g]? = some fg) (hc : defChk P G D = true) : DefOK P G fn D := by
  simp only [defChk, Bool.and_eq_true] at hc
  obtain ⟨⟨⟨c1, c2⟩, c3⟩, c4⟩ := hc
  unfold defOf at h
  split at h
  · rename_i id1 ops1 id2 o1 o2 rest id3 o3 rest3 hb1 hb2
    split at h
    · rename_i g' caps t c cc e1 e2 e3 e4
      split at h
      · rename_i t' f1 f2 f3 f4
        generalize hk : (o1.guard.isNone && o2.guard.isNone && o3.guard.isNone && Nat.beq g g' && Nat.beq t t' && Nat.ble (t + 1) fn.ntmps && fg.results.toList.isEmpty && fg.name != "runtime.NumGoroutine") = k at h
        cases k with
        | false => cases h
        | true =>
          cases h
          simp only [Bool.and_eq_true] at hk
          obtain ⟨⟨⟨⟨⟨⟨⟨k1, k2⟩, k3⟩, k4⟩, k5⟩, k6⟩, k7⟩, k8⟩ := hk
          obtain rfl := Nat.eq_of_beq_eq_true k4
          obtain rfl := Nat.eq_of_beq_eq_true k5
          refine ⟨⟨id1, id2, o1, o2, c, hb1, by simpa using k1, e1, e2, by simpa using k2, e3, f1, f2, rfl⟩, Nat.lt_of_succ_le (Nat.le_of_ble_eq_true k6), ⟨fg, id3, o3, cc, hg, by simpa using k8, rfl, ?_, hb2, by simpa using k3, e4, f3, f4, rfl⟩,
            List.all_eq_true.1 c1, List.all_eq_true.1 c2, c3, c4⟩
          have : fg.results.toList = [] := by simpa using k7
          exact Array.toList_inj.1 this
      · cases h
    · cases h
  · cases h
end Go.Am
/- Calls over shallow functions: a table by number; what is not in the table goes to the evaluator. -/
namespace Go.Am

abbrev ShFn : Type := CallOp → LoopOp → List AV → AM AV
def callS (P : Program) (X : Special) (T : Tr ShFn) (H : FuncId → List Hint) : Nat → CallOp
  | 0, _, _ => .bad
  | n + 1, f, args => match X (callS P X T H n) (loopN n) f with
    | some g => g args
    | none => match T.get f with
      | some g => g (callS P X T H n) (loopN n) args
      | none => match P.funcs[f]? with
        | some fn => evalFn P (callS P X T H n) (loopN n) fn (H f) args
        | none => .bad

def TabOK (P : Program) (T : Tr ShFn) (H : FuncId → List Hint) : Prop := ∀ f g, T.get f = some g → ∃ fn, P.funcs[f]? = some fn ∧ ∀ C Lp args, g C Lp args = evalFn P C Lp fn (H f) args

theorem callS_eq {P : Program} {X : Special} {T : Tr ShFn} {H : FuncId → List Hint} (ok : TabOK P T H) : ∀ n, callS P X T H n = callN P X H n
  | 0 => rfl
  | n + 1 => by
    funext f args
    simp only [callS, callN]
    rw [callS_eq ok n]
    cases X (callN P X H n) (loopN n) f with
    | some g => rfl
    | none =>
      simp only
      cases ht : T.get f with
      | none => rfl
      | some g =>
        obtain ⟨fn, h1, h2⟩ := ok f g ht
        simp only [h1, h2]
end Go.Am
/- Functions without a body, and strings.Join: what stands for them in the abstract machine. -/
namespace Go.Am
open Go.RowKit (Below)

variable {P : Program}

def idxL : List UInt8 → UInt8 → Nat → Option Nat
  | [], _, _ => none
  | b :: l, c, i => cond (Nat.beq b.toNat c.toNat) (some i) (idxL l c (i + 1))
def cntL : List UInt8 → UInt8 → Nat → Nat
  | [], _, n => n
  | b :: l, c, n => cntL l c (cond (Nat.beq b.toNat c.toNat) (n + 1) n)
theorem beq_toNat (b c : UInt8) : Nat.beq b.toNat c.toNat = (b == c) := by
  by_cases h : b = c
  · subst h; simp
  · have : b.toNat ≠ c.toNat := fun e => h (UInt8.toNat_inj.1 e)
    rw [show (b == c) = false by simpa using h]
    cases hb : Nat.beq b.toNat c.toNat with
    | false => rfl
    | true => exact absurd (Nat.eq_of_beq_eq_true hb) this
theorem idxL_eq : ∀ (l : List UInt8) (c : UInt8) (i : Nat), (match idxL l c i with | some j => (j : Int) | none => -1) = if Lib.indexByte l c == -1 then -1 else Lib.indexByte l c + i
  | [], c, i => rfl
  | b :: l, c, i => by
    simp only [idxL, beq_toNat, Lib.indexByte]
    by_cases h : (b == c) = true
    · simp only [h, cond, if_true]
      simp
    · have h' : (b == c) = false := by simpa using h
      simp only [h', cond, Bool.false_eq_true, if_false]
      rw [idxL_eq l c (i + 1)]
      by_cases h2 : (Lib.indexByte l c == -1) = true
      · simp [h2]
      · have := Lib.indexByte_ge l c
        have h3 : Lib.indexByte l c ≠ -1 := by simpa using h2
        simp only [h2, if_false, Bool.false_eq_true]
        rw [if_neg (by simp; omega)]
        push_cast
        omega
theorem cntL_eq : ∀ (l : List UInt8) (c : UInt8) (n : Nat), cntL l c n = n + Lib.countByte l c
  | [], c, n => by simp [cntL, Lib.countByte]
  | b :: l, c, n => by
    simp only [cntL, beq_toNat]
    rw [cntL_eq l c]
    simp only [Lib.countByte, List.count_cons]
    cases (b == c) <;> simp <;> omega

def idxA (args : List AV) : AM AV := match args with
  | [.str s, .int .u8 c] => .ret (.int .i64 (match idxL s c.toNat.toUInt8 0 with | some j => .ofNat j | none => .negSucc 0))
  | _ => .bad
def cntA (args : List AV) : AM AV := match args with
  | [.str s, .int .u8 c] => .ret (.int .i64 (.ofNat (cntL s c.toNat.toUInt8 0)))
  | _ => .bad

structure IsExt (P : Program) (f : FuncId) (e : Array Value → Sem Value) : Prop where
  ok : ∃ fn, P.funcs[f]? = some fn ∧ (fn.name == "runtime.NumGoroutine") = false ∧ fn.body.isNone = true ∧ Extern.findNext fn = none ∧ Extern.find fn = some e

theorem idxA_sound {f : FuncId} (hx : IsExt P f Extern.BytealgIndexByte.indexByte) {μ : Inj} {h : AHeap} {w : World} {as : List AV} {vs : Array Value} (hr : Rel μ h w) (ha : VRels μ as vs.toList) (hb : idxA as h ≠ .bad) : Meets P μ h w (idxA as h) ((callFunc f vs).run P w) := by
  obtain ⟨fn, h1, h2, h3, h4, h5⟩ := hx.ok
  rw [run_callFunc_extern h1 h2 h3 h4 h5]
  unfold idxA at *
  split at hb
  · rename_i s c
    obtain ⟨v0, r0, e0, ⟨t, rfl, rfl⟩, v1, r1, rfl, hv1, hr1⟩ := ha
    rw [VRels] at hr1; subst hr1
    rw [VRel] at hv1; subst hv1
    obtain rfl : vs = #[.string t, .int .u8 c] := Array.toList_inj.1 e0
    rw [Lib.run_indexByteString]
    refine Meets.val hr rfl rfl ?_
    rw [VRel]
    congr 1
    have := idxL_eq t.data.toList c.toNat.toUInt8 0
    have hm : (match idxL t.data.toList c.toNat.toUInt8 0 with | some j => Int.ofNat j | none => Int.negSucc 0) = (match idxL t.data.toList c.toNat.toUInt8 0 with | some j => (j : Int) | none => -1) := by
      cases idxL t.data.toList c.toNat.toUInt8 0 <;> rfl
    rw [hm, this]
    split
    · rename_i h6; simpa using h6
    · simp
  · exact absurd rfl hb

theorem cntA_sound {f : FuncId} (hx : IsExt P f Extern.BytealgCount.count) {μ : Inj} {h : AHeap} {w : World} {as : List AV} {vs : Array Value} (hr : Rel μ h w) (ha : VRels μ as vs.toList) (hb : cntA as h ≠ .bad) : Meets P μ h w (cntA as h) ((callFunc f vs).run P w) := by
  obtain ⟨fn, h1, h2, h3, h4, h5⟩ := hx.ok
  rw [run_callFunc_extern h1 h2 h3 h4 h5]
  unfold cntA at *
  split at hb
  · rename_i s c
    obtain ⟨v0, r0, e0, ⟨t, rfl, rfl⟩, v1, r1, rfl, hv1, hr1⟩ := ha
    rw [VRels] at hr1; subst hr1
    rw [VRel] at hv1; subst hv1
    obtain rfl : vs = #[.string t, .int .u8 c] := Array.toList_inj.1 e0
    rw [Lib.run_countString]
    refine Meets.val hr rfl rfl ?_
    rw [VRel, cntL_eq]
    simp
  · exact absurd rfl hb

/- ### strings.Join -/
def strsOf? : List AV → Option (List (List UInt8))
  | [] => some []
  | .str s :: r => match strsOf? r with
    | some l => some (s :: l)
    | none => none
  | _ => none
def joinL (sep : List UInt8) : List (List UInt8) → List UInt8
  | [] => []
  | [x] => x
  | x :: r => x ++ (sep ++ joinL sep r)
theorem joinL_eq (sep : List UInt8) : ∀ l, joinL sep l = Lib.join l sep
  | [] => rfl
  | [x] => (Lib.join_one x sep).symm
  | x :: y :: r => by
    rw [joinL, joinL_eq sep (y :: r)]
    simp [Lib.join, List.intercalate]
    simp
def joinA (args : List AV) : AM AV := fun h => match args with
  | [.snil, .str _] => .ok (.str []) h
  | [.szero, .str _] => .ok (.str []) h
  | [.sl b o n 1, .str sep] => match rdN h b o n with
    | some cs => match strsOf? cs with
      | some l => cond (Nat.ble n maxLenA && Nat.ble (joinL sep l).length maxLenA) (.ok (.str (joinL sep l)) h) .bad
      | none => .bad
    | none => .bad
  | _ => .bad
def JoinOK (P : Program) (f : FuncId) : Prop :=
  (∀ args w, (callFunc f args).run P w = .ok (.enter f args) w) ∧
  (∀ (a : Option Addr) (c : Nat) (sep : ByteArray) (w : World), Calls P f #[.slice a 0 c, .string sep] w fun e w' => e = .returned (.string ⟨#[]⟩) ∧ w' = w) ∧
  (∀ (bk o c : Nat) (xs : List ByteArray) (sep : ByteArray) (w : World), (∀ (j : Nat) x, xs[j]? = some x → w.cell? ⟨bk, o + j, none⟩ = some (.string x)) → bk < w.heap.size → xs.length ≤ 140737488355328 → xs.length ≤ c →
    (Lib.join (xs.map (·.data.toList)) sep.data.toList).length ≤ 140737488355328 →
    Calls P f #[.slice (some ⟨bk, o, none⟩) xs.length c, .string sep] w fun e w' => e = .returned (.string ⟨(Lib.join (xs.map (·.data.toList)) sep.data.toList).toArray⟩) ∧ Below w.heap.size w w')

theorem grown_of_below {w w' : World} (hb : Below w.heap.size w w') : Grown w w' := by
  refine ⟨⟨w'.heap.extract w.heap.size w'.heap.size, ?_⟩, hb.os, hb.output⟩
  apply Array.ext_getElem?
  intro i
  rcases Nat.lt_or_ge i w.heap.size with h | h
  · rw [Array.getElem?_append_left h]; exact hb.block i h
  · rw [Array.getElem?_append_right h, Array.getElem?_extract]
    have := hb.size
    by_cases h2 : i < w'.heap.size
    · rw [if_pos (by omega)]; congr 1; omega
    · rw [if_neg (by omega)]; exact Array.getElem?_eq_none (by omega)

theorem strs_rel {μ : Inj} : ∀ {cs : List AV} {l : List (List UInt8)} {us : List Value}, strsOf? cs = some l → VRels μ cs us → ∃ xs : List ByteArray, us = xs.map Value.string ∧ xs.map (·.data.toList) = l
  | [], l, us, h, hv => by
    simp [strsOf?] at h; subst h; rw [VRels] at hv; subst hv; exact ⟨[], rfl, rfl⟩
  | c :: cs, l, us, h, hv => by
    obtain ⟨u, us', rfl, h1, h2⟩ := hv
    cases c <;> simp only [strsOf?, reduceCtorEq] at h
    case str s =>
      rcases hs : strsOf? cs with _ | l'
      · rw [hs] at h; cases h
      · rw [hs] at h
        cases h
        obtain ⟨t, rfl, rfl⟩ := h1
        obtain ⟨xs, rfl, e⟩ := strs_rel hs h2
        exact ⟨t :: xs, rfl, by simp [e]⟩

theorem Meets.ofCalls {f : FuncId} {vs : Array Value} {μ : Inj} {h : AHeap} {w : World} {r : Res AV} (he : (callFunc f vs).run P w = .ok (.enter f vs) w)
    (hc : Calls P f vs w fun e w' => ∃ v, e = .returned v ∧ RetOf μ h w r v w') : Meets P μ h w r ((callFunc f vs).run P w) := by
  rw [he]
  exact hc.mono fun e w' ⟨v, e1, e2⟩ => by subst e1; exact e2

theorem joinA_sound {f : FuncId} (hj : JoinOK P f) {μ : Inj} {h : AHeap} {w : World} {as : List AV} {vs : Array Value} (hr : Rel μ h w) (ha : VRels μ as vs.toList) (hb : joinA as h ≠ .bad) : Meets P μ h w (joinA as h) ((callFunc f vs).run P w) := by
  obtain ⟨j1, j2, j3⟩ := hj
  refine Meets.ofCalls (j1 _ _) ?_
  unfold joinA at *
  split at hb
  · obtain ⟨v0, r0, e0, h0, v1, r1, rfl, ⟨sep, rfl, rfl⟩, hr1⟩ := ha
    rw [VRels] at hr1; subst hr1
    rw [VRel] at h0; subst h0
    obtain rfl : vs = #[.slice none 0 0, .string sep] := Array.toList_inj.1 e0
    refine (j2 none 0 sep w).mono fun e w' ⟨e1, e2⟩ => ?_
    subst e1; subst e2
    exact ⟨_, rfl, _, h, μ, rfl, hr, Ext.refl, ⟨_, rfl, rfl⟩⟩
  · obtain ⟨v0, r0, e0, ⟨a, rfl⟩, v1, r1, rfl, ⟨sep, rfl, rfl⟩, hr1⟩ := ha
    rw [VRels] at hr1; subst hr1
    obtain rfl : vs = #[.slice (some a) 0 0, .string sep] := Array.toList_inj.1 e0
    refine (j2 (some a) 0 sep w).mono fun e w' ⟨e1, e2⟩ => ?_
    subst e1; subst e2
    exact ⟨_, rfl, _, h, μ, rfl, hr, Ext.refl, ⟨_, rfl, rfl⟩⟩
  · rename_i b o n _
    obtain ⟨v0, r0, e0, ⟨C, d, S, a, cap, hm, rfl, hn, _, hloc⟩, v1, r1, rfl, ⟨sep, rfl, rfl⟩, hr1⟩ := ha
    rw [VRels] at hr1; subst hr1
    obtain rfl : vs = #[.slice (some a) n cap, .string sep] := Array.toList_inj.1 e0
    rcases hc : rdN h b o n with _ | cs
    · rw [hc] at hb; exact absurd rfl hb
    · rw [hc] at hb
      simp only at hb ⊢
      rcases hs : strsOf? cs with _ | l
      · rw [hs] at hb; exact absurd rfl hb
      · rw [hs] at hb
        simp only at hb ⊢
        cases hl : (Nat.ble n maxLenA && Nat.ble (joinL sep.data.toList l).length maxLenA) with
        | false => rw [hl] at hb; exact absurd rfl hb
        | true =>
          simp only [Bool.and_eq_true] at hl
          have hn2 : n ≤ maxLenA := Nat.le_of_ble_eq_true hl.1
          have hl2 : (joinL sep.data.toList l).length ≤ maxLenA := Nat.le_of_ble_eq_true hl.2
          simp only [cond]
          rcases hloc with ⟨rfl, hin⟩ | ⟨rfl, rfl, _⟩
          · obtain ⟨bc, hbc, rfl, hlen⟩ := rdN_cells hc
            obtain ⟨c, ty, fz, h1, h2, h3, h4⟩ := hr.readable hm hbc
            have hin' : ∀ j, j < n → o + j < bc.length := fun j hj => by
              have : ((bc.drop o).take n).length = n := hlen
              simp at this
              omega
            -- the cells
            have hv : VRels μ ((bc.drop o).take n) ((List.range n).map fun j => c.getD (d + o + j) undef) := by
              refine VRels.of_get (by simp [hlen]) fun i x hx => ?_
              have hi : i < n := by
                have := (List.getElem?_eq_some_iff.1 hx).1
                rw [hlen] at this; exact this
              have hx2 : bc[o + i]? = some x := by
                rw [List.getElem?_take_of_lt hi, List.getElem?_drop] at hx; exact hx
              obtain ⟨u, hu, hru⟩ := h4 (o + i) x hx2
              refine ⟨u, ?_, hru⟩
              have : c[d + o + i]? = some u := by rw [Nat.add_assoc]; exact hu
              simp [hi, Array.getD_eq_getD_getElem?, this]
            obtain ⟨xs, e1, e2⟩ := strs_rel hs hv
            have hxl : xs.length = n := by
              have := congrArg List.length e1
              simpa using this.symm
            have hcell : ∀ (j : Nat) x, xs[j]? = some x → w.cell? ⟨C, d + o + j, none⟩ = some (.string x) := fun j x hx => by
              rw [cell_of h1]
              have hj : j < n := by rw [← hxl]; exact (List.getElem?_eq_some_iff.1 hx).1
              have h5 : ((List.range n).map fun j => c.getD (d + o + j) undef)[j]? = some (.string x) := by rw [e1]; simp [hx]
              have h6 : d + o + j < c.size := by have := hin' j hj; omega
              simp [hj, Array.getD_eq_getD_getElem?, h6] at h5
              simp [h6, h5]
            subst hxl
            have hC : C < w.heap.size := (hr.obj b C d S hm).2.1
            unfold maxLenA at hn2 hl2
            refine (j3 C (d + o) cap xs sep w hcell hC (by omega) hn (by rw [e2, ← joinL_eq]; omega)).mono fun e w' ⟨g1, g2⟩ => ?_
            subst g1
            obtain ⟨g3, g4⟩ := (grown_of_below g2).rel hr
            refine ⟨_, rfl, _, h, μ, rfl, g3, g4, ⟨_, rfl, ?_⟩⟩
            rw [e2, joinL_eq]
          · obtain ⟨bc, hbc, rfl, hlen⟩ := rdN_cells hc
            simp [strsOf?] at hs
            subst hs
            refine (j2 (some a) 0 sep w).mono fun e w' ⟨e1, e2⟩ => ?_
            subst e1; subst e2
            exact ⟨_, rfl, _, h, μ, rfl, hr, Ext.refl, ⟨_, rfl, rfl⟩⟩
  · exact absurd rfl hb
end Go.Am
/- From a run of the abstract machine to what a row asks. -/
namespace Go.Am
open Go.ChangeShapes Go.WideShapes Go.ChangeAt Go.RowKit

variable {P : Program}

/-- What was there when the call began is there behind it, as it was. -/
structure Stays (W W' : World) : Prop where
  os : W'.os = W.os
  output : W'.output = W.output
  size : W.heap.size ≤ W'.heap.size
  block : ∀ k, k < W.heap.size → W'.heap[k]? = W.heap[k]?
theorem Stays.of_ext {μ μ' : Inj} {h h' : AHeap} {W W' : World} (e : Ext μ h W μ' h' W') (hro : ∀ b x, μ b = some x → isRo (h.objs.get b)) : Stays W W' :=
  ⟨e.os, e.output, e.size, fun C hC => e.frC C hC fun b _ _ hb => hro b _ hb⟩
theorem Stays.same {W W' : World} (h : Stays W W') {p : MemPlace} (hp : p.block < W.heap.size) : W.sameAt W' p := by
  cases p with
  | cell b o => exact World.cell?_of_block (w := W) (h.block b hp)
  | map b => exact h.block b hp
theorem Stays.frozen {W W' : World} (h : Stays W W') {p : Addr} (hp : p.block < W.heap.size) : W'.frozen? p = W.frozen? p := World.frozen?_of_block (w := W) (h.block p.block hp)
theorem Stays.frame {W W' : World} (h : Stays W W') (may : MemPlace → Prop) : W.keptBut W' may := by
  refine ⟨h.os, h.output, fun i hi => ?_⟩
  rw [h.block i hi]
  split <;> simp_all

/- ### the run -/
def okT (r : Res AV) : Bool := match r with
  | .ok (.bool true) _ => true
  | _ => false
theorem okT_spec {r : Res AV} (h : okT r = true) : ∃ h', r = .ok (.bool true) h' := by
  unfold okT at h
  split at h
  · exact ⟨_, rfl⟩
  · cases h
theorem run_true {G : Nat} {X : Special} {H : FuncId → List Hint} (ok : ProgOK P G X H) {f : FuncId} (hne : f ≠ recId) {μ : Inj} {h : AHeap} {w : World} {as : List AV} {vs : Array Value} (hr : Rel μ h w) (hg : GlobOK G μ) (ha : VRels μ as vs.toList)
    (hro : ∀ b x, μ b = some x → isRo (h.objs.get b)) (hcall : (callFunc f vs).run P w = .ok (.enter f vs) w) (n : Nat) (hrun : okT (callN P X H n f as h) = true) :
    Calls P f vs w fun e w' => e = .returned (.bool true) ∧ Stays w w' := by
  obtain ⟨h', e'⟩ := okT_spec hrun
  have hm := (callN_sound ok n).1 (vs := vs) hne hr hg ha (by rw [e']; simp)
  rw [hcall] at hm
  refine Calls.mono (show Calls P f vs w _ from hm) fun e w' he => ?_
  cases e with
  | returned v =>
    obtain ⟨a, h2, μ', e1, e2, e3, e4⟩ := he
    rw [e'] at e1
    cases e1
    rw [VRel] at e4
    exact ⟨by rw [e4], Stays.of_ext e3 hro⟩
  | panicked chain =>
    obtain ⟨v, _, a, h2, μ', e1, _⟩ := he
    rw [e'] at e1
    cases e1
  | outgrown => exact he.elim

/- ### the memory that a call finds -/
def objsOf : List (List AV) → Nat → Tr AObj
  | [], _ => .lf
  | cs :: r, i => (objsOf r (i + 1)).set i (.ro cs)
theorem objsOf_get : ∀ (l : List (List AV)) (i b : Nat), (objsOf l i).get b = if i ≤ b then (l[b - i]?).map AObj.ro else none
  | [], i, b => by cases b <;> simp [objsOf, Tr.get]
  | cs :: r, i, b => by
    simp only [objsOf, Tr.get_set, objsOf_get r (i + 1) b]
    by_cases h : b = i
    · subst h; simp
    · rw [if_neg h]
      by_cases h2 : i ≤ b
      · rw [if_pos h2, if_pos (by omega)]
        obtain ⟨k, hk⟩ : ∃ k, b - i = k + 1 := ⟨b - i - 1, by omega⟩
        rw [hk, show b - (i + 1) = k by omega]
        simp
      · rw [if_neg h2, if_neg (by omega)]
def initH (l : List (List AV)) : AHeap := { next := l.length, objs := objsOf l 0, fams := .lf }
def initI (bs : List (Nat × Nat × Nat)) : Inj := fun b => bs[b]?
theorem initH_get (l : List (List AV)) (b : Nat) : (initH l).objs.get b = (l[b]?).map AObj.ro := by simp [initH, objsOf_get]
theorem initH_ro {l : List (List AV)} {bs : List (Nat × Nat × Nat)} (hl : l.length = bs.length) : ∀ b x, initI bs b = some x → isRo ((initH l).objs.get b) := fun b x hb => by
  rw [initH_get]
  have : b < l.length := by rw [hl]; exact (List.getElem?_eq_some_iff.1 hb).1
  rw [List.getElem?_eq_getElem this]
  trivial
/-- a block that is only read -/
def Seen (μ : Inj) (w : World) (x : Nat × Nat × Nat) (cs : List AV) : Prop := ∃ c e fz, w.heap[x.1]? = some (.cells c e fz) ∧ c.size = x.2.2 ∧ x.2.1 + cs.length ≤ x.2.2 ∧ CellsRel μ cs c x.2.1
theorem rel_init {w : World} {l : List (List AV)} {bs : List (Nat × Nat × Nat)} (hl : l.length = bs.length) (h : ∀ (b : Nat) x cs, bs[b]? = some x → l[b]? = some cs → Seen (initI bs) w x cs) : Rel (initI bs) (initH l) w where
  obj := fun b C d S hb => by
    have hlt : b < l.length := by rw [hl]; exact (List.getElem?_eq_some_iff.1 hb).1
    obtain ⟨c, e, fz, h1, h2, h3, h4⟩ := h b (C, d, S) l[b] hb (List.getElem?_eq_getElem hlt)
    refine ⟨hlt, ?_, .ro l[b], by rw [initH_get, List.getElem?_eq_getElem hlt]; rfl, c, e, fz, h1, h2, h3, h4⟩
    exact (Array.getElem?_eq_some_iff.1 h1).1
  sep := fun b1 b2 C d1 S1 d2 S2 o1 o2 m1 m2 g1 g2 => by
    rw [initH_get] at g1 g2
    obtain ⟨x1, _, rfl⟩ := Option.map_eq_some_iff.1 g1
    obtain ⟨x2, _, rfl⟩ := Option.map_eq_some_iff.1 g2
    exact .inr trivial
  ver := fun b1 b2 x1 x2 cs1 cs2 f v m1 m2 g1 g2 => by
    rw [initH_get] at g1
    obtain ⟨x1, _, e⟩ := Option.map_eq_some_iff.1 g1
    cases e
  ord := fun b1 b2 C d1 S1 d2 S2 cs1 cs2 f v1 v2 top lo m1 m2 g1 g2 => by
    rw [initH_get] at g1
    obtain ⟨x1, _, e⟩ := Option.map_eq_some_iff.1 g1
    cases e
  fid := fun b x cs f v m g => by
    rw [initH_get] at g
    obtain ⟨x1, _, e⟩ := Option.map_eq_some_iff.1 g
    cases e

/- ### the package-level variables -/
/-- A variable whose content is not asked. -/
theorem seen_shape {w : World} {g : Nat} {t : TypeId} {zero : Array Value} (h : w.ShapedOpen P) (hg : g < P.globals.size)
    (h0 : ((begin P (fun _ _ => 0) default).world.heap[g]?).bind Obj.row? = some (zero, t)) (μ : Inj) : Seen μ w (g, 0, zero.size) [] := by
  obtain ⟨cs, hh, hs, _⟩ := h.1 g zero t hg h0
  exact ⟨cs, t, (0, 0), hh, hs, by simp, fun i v hv => by simp at hv⟩
/-- A table of numbers. -/
theorem seen_tab {w : World} {g : Nat} {t : TypeId} {zero : Array Value} {name : String} {k : IntKind} {zs : List Int} (h : w.ShapedOpen P) (hg : g < P.globals.size)
    (h0 : ((begin P (fun _ _ => 0) default).world.heap[g]?).bind Obj.row? = some (zero, t)) (hz : zs.length = zero.size) (hn : P.globalNamed name = some g) (ht : Lib.TabIs P w name k zs) (μ : Inj) :
    Seen μ w (g, 0, zero.size) (zs.map fun z => .int k z) := by
  obtain ⟨cs, hh, hs, _⟩ := h.1 g zero t hg h0
  refine ⟨cs, t, (0, 0), hh, hs, by simp [hz], fun i v hv => ?_⟩
  rw [List.getElem?_map] at hv
  obtain ⟨z, hz', rfl⟩ := Option.map_eq_some_iff.1 hv
  have hi : i < zs.length := (List.getElem?_eq_some_iff.1 hz').1
  have := ht.cell hn i hi
  refine ⟨.int k z, ?_, rfl⟩
  have e : w.cell? ⟨g, i, none⟩ = cs[i]? := by simp [World.cell?, hh]
  rw [Nat.zero_add, ← e, this, List.getD_eq_getElem?_getD, hz']
  rfl
theorem laidVars_tail {w : World} {x : String × DataW Unit} {r : List (String × DataW Unit)} {ps : List MemPlace} (h : DataW.LaidVars P w (x :: r) ps) : ∃ q, DataW.LaidVars P w r q := by
  obtain ⟨_, _, _, _, _, q, _, _, _, _, hq, _⟩ := h
  exact ⟨q, hq⟩
theorem tabIs_of_vars {W : World} {name : String} {k : IntKind} {zs : List Int} {rest : List (String × DataW Unit)} {ps : List MemPlace} {g : Nat} {t e : TypeId} {n : Nat}
    (hg : P.globalNamed name = some g) (hty : (P.globals[g]?).map (·.type) = some t) (ht : P.underlying t = some (.array n e)) (he : P.underlying e = some (.int k)) (hce : P.cellsOf e = 1) (hct : P.cellsOf t = n)
    (h : DataW.LaidVars P W ((name, Lib.tabData k zs) :: rest) ps) : Lib.TabIs P W name k zs := by
  obtain ⟨g', t', cs, fuel, p, q, hg', ht', hvar, hd, _, _⟩ := h
  obtain rfl := Option.some.inj (hg.symm.trans hg')
  obtain rfl := Option.some.inj (hty.symm.trans ht')
  unfold Lib.TabIs
  rw [hvar, ← Lib.cells_of_tab ht he hce hct hd]

/- ### the row's post -/
section
variable {H : Type} {enc : TypeId × Value → H}
theorem post_of_stays {f : Func} {s : ChangeSpec} {apart fresh handsOn again : Bool} {W W' : World} {args : Array Value} {v : Value} {ds gs : List (DataW H)} {before pa pv : List MemPlace}
    (hW : DataW.Whole enc P f.params.toList s.vars apart W args.toList ds gs before)
    (hres : ∀ (b : Nat) (sp : Nat → Bool) (hd : Bool), DataW.TrodAll enc P W' b sp hd f.resultTypes.toList (v.resultList f.resultTypes.size) (s.fn H (ds ++ gs)).results [])
    (hargs : ∀ sp : Nat → Bool, (∀ p ∈ before, sp p.block = true) → DataW.TrodAll enc P W' 0 sp true f.params.toList args.toList (s.fn H (ds ++ gs)).args pa)
    (hvars : ∀ sp : Nat → Bool, (∀ p ∈ before, sp p.block = true) → DataW.TrodVars enc P W' sp s.vars (s.fn H (ds ++ gs)).vars pv)
    (hps : before = pa ++ pv) (hb : Stays W W')
    (hok : ∀ (j : Nat) (t : TypeId) (r : Value), f.resultTypes[j]? = some t → (v.resultList f.resultTypes.size)[j]? = some r → Value.okWide P W' .any 0 t r) :
    s.post enc P f apart fresh handsOn again W args v W' := by
  have hlt : ∀ p ∈ before, p.block < W.heap.size := fun p hp => hW.lt p hp
  have hold : ∀ p ∈ before, (fun b => decide (b < W.heap.size)) p.block = true := fun p hp => by simpa using hlt p hp
  refine ⟨ds, gs, before, [], pa, pv, hW, hres _ _ _, hargs _ hold, hvars _ hold, World.keptBut_mono (fun p hp => ⟨hp, ?_⟩) (hb.frame (· ∈ before)), fun _ => ?_⟩
  · rw [hps, List.mem_append] at hp
    exact Or.inr hp
  · obtain ⟨_, _, _, _, _, hz, hn⟩ := hW
    refine ⟨hok, _, _, ([] ++ pa) ++ pv, ⟨[] ++ pa, pv, trodAll_append (hargs _ (fun _ _ => rfl)) (hres _ _ _), hvars _ (fun _ _ => rfl), rfl, ?_, ?_⟩, ?_⟩
    · intro b off hp
      have hin : MemPlace.cell b off ∈ before := by rw [hps]; simpa using hp
      rw [hb.frozen (hlt _ hin)]
      exact hz b off hin
    · intro ha
      have := hn ha
      rw [hps] at this
      simpa using this
    · intro p hp _
      rw [hps]
      simpa using hp

theorem trodAll_stays (hl : laidOutB P = true) {W W' : World} (hb : Stays W W') {sp : Nat → Bool} : ∀ {ts : List TypeId} {vs : List Value} {ds : List (DataW H)} {ps : List MemPlace}, (ts.all fun t => P.readableRec t && decide (t < P.types.size)) = true →
    DataW.TrodAll enc P W 0 (fun _ => true) true ts vs ds ps → (∀ p ∈ ps, p.block < W.heap.size) → (∀ p ∈ ps, sp p.block = true) → DataW.TrodAll enc P W' 0 sp true ts vs ds ps
  | [], vs, ds, ps, _, h, _, _ => by
    obtain ⟨rfl, rfl, rfl⟩ := trodAll_nil h
    exact trodAll_mk0
  | t :: ts, vs, ds, ps, ht, h, hlt, hs => by
    simp only [List.all_cons, Bool.and_eq_true, decide_eq_true_eq] at ht
    obtain ⟨v, vs', d, ds', p, q, rfl, rfl, rfl, h1, h2⟩ := trodAll_cons h
    exact ⟨p, q, WideElems.Trod_stays hl ht.1.1 ht.1.2 h1 (fun x hx => hb.same (hlt x (by simp [hx]))) (fun x hx => hs x (by simp [hx])), trodAll_stays hl hb ht.2 h2 (fun x hx => hlt x (by simp [hx])) (fun x hx => hs x (by simp [hx])), rfl⟩

/-- A law's post: it returned true, and all is as it was. -/
theorem law_post {f : Func} {s : ChangeSpec} {fresh handsOn again : Bool} {W W' : World} {args : Array Value} {ds gs : List (DataW H)} {before : List MemPlace} {tb : TypeId} (hl : laidOutB P = true)
    (hW : DataW.Whole enc P f.params.toList s.vars false W args.toList ds gs before) (hvars : s.vars = []) (hres : f.resultTypes = #[tb]) (htb : P.underlying tb = some .bool) (hpar : (f.params.toList.all fun t => P.readableRec t && decide (t < P.types.size)) = true)
    (hfn : s.fn H (ds ++ gs) = { results := [.lit (.bool true)], args := ds }) (hb : Stays W W') : s.post enc P f false fresh handsOn again W args (.bool true) W' := by
  have hW' := hW
  obtain ⟨p, q, hA, hV, rfl, hfz, hnd⟩ := hW
  rw [hvars] at hV
  obtain ⟨rfl, rfl⟩ := trodVars_none hV
  have hlt : ∀ x ∈ p, x.block < W.heap.size := fun x hx => hW'.lt x (by simp [hx])
  refine post_of_stays (pa := p) (pv := []) hW' (fun b sp hd => ?_) (fun sp hsp => ?_) (fun sp hsp => ?_) rfl hb ?_
  · rw [hfn, hres]
    exact trodAll_cons_mk (shut_bool htb true) trodAll_mk0
  · rw [hfn]
    exact trodAll_stays hl hb hpar hA hlt fun x hx => hsp x (by simp [hx])
  · rw [hfn, hvars]
    rfl
  · exact ok_one hres rfl (okWide_bool_mk htb true)
end
end Go.Am
/- Arguments: rows of numbers. -/
namespace Go.Am
open Go.ChangeShapes Go.WideShapes Go.ChangeAt Go.RowKit
variable {P : Program}
/-- An argument that is a row of numbers: how it is seen. -/
theorem arg_ints {H : Type} {enc : TypeId × Value → H} {w : World} {t e : TypeId} {k : IntKind} {v : Value} {d : DataW H} {ps : List MemPlace} (ht : P.underlying t = some (.slice e)) (he : P.underlying e = some (.int k)) (hc : P.cellsOf e = 1)
    {r : Reach} {b0 : Nat} (hval : Value.okWide P w r b0 t v) (h : DataW.Trod enc P w 0 (fun _ => true) true t v d ps) :
    v = .slice none 0 0 ∨ (∃ a, v = .slice (some a) 0 0) ∨
    ∃ (C o len cap S : Nat) (zs : List Int), v = .slice (some ⟨C, o, none⟩) len cap ∧ len ≤ cap ∧ zs.length = cap ∧ (∀ n ∈ zs, (Lit.int k n).wf = true) ∧
      (∀ μ, Seen μ w (C, o, S) (zs.map fun z => .int k z)) ∧ (∀ μ b, μ b = some (C, o, S) → VRel μ (.sl b 0 len 1) v) := by
  obtain ⟨fuel, hf⟩ := h
  obtain ⟨p, n, c, rfl⟩ := okWide_slice ht hval
  rcases open_ints ht he hc hf with ⟨h1, _⟩ | ⟨a, len, cap, zs, h1, _, h3, h4, h5, _, h7, h8⟩
  · simp [Value.cells] at h1
    obtain ⟨rfl, rfl, rfl⟩ := h1
    exact .inl rfl
  · simp [Value.cells] at h1
    obtain ⟨rfl, rfl, rfl⟩ := h1
    simp only [if_true] at h5
    rcases Nat.eq_zero_or_pos c with rfl | hpos
    · obtain rfl : n = 0 := by omega
      exact .inr (.inl ⟨a, rfl⟩)
    · obtain ⟨C, o, sp⟩ := a
      have h0 := h7 0 (by omega)
      have hadd0 : (Addr.mk C o sp).add 0 = ⟨C, o, sp⟩ := by simp [Addr.add]
      rw [hadd0] at h0
      have hblk : sp = none ∧ ∃ cs e' fz, w.heap[C]? = some (.cells cs e' fz) := by
        unfold World.cell? at h0
        simp only at h0
        rcases hh : w.heap[C]? with _ | ob
        · rw [hh] at h0; cases h0
        · rw [hh] at h0
          cases ob <;> simp only [reduceCtorEq] at h0
          case cells cs e' fz =>
            cases sp with
            | none => exact ⟨rfl, cs, e', fz, rfl⟩
            | some x => simp at h0
      obtain ⟨rfl, cs, e', fz, hh⟩ := hblk
      have hadd : ∀ i, (Addr.mk C o none).add i = ⟨C, o + i, none⟩ := fun i => by
        unfold Addr.add
        by_cases hi : i = 0
        · simp [hi]
        · simp [hi]
      have hcell : ∀ i, i < c → cs[o + i]? = some (.int k (zs.getD i 0)) := fun i hi => by
        have := h7 i (by omega)
        rw [hadd] at this
        simpa [World.cell?, hh] using this
      have hS : o + c ≤ cs.size := by
        have := hcell (c - 1) (by omega)
        have := (Array.getElem?_eq_some_iff.1 this).1
        omega
      refine .inr (.inr ⟨C, o, n, c, cs.size, zs, rfl, h3, h5, h8, fun μ => ⟨cs, e', fz, hh, rfl, by simpa [h5] using hS, fun i v hv => ?_⟩, fun μ b hb => ⟨C, o, cs.size, ⟨C, o, none⟩, c, hb, rfl, h3, Nat.le_refl _, .inl ⟨by simp, by simpa using hS⟩⟩⟩)
      rw [List.getElem?_map] at hv
      obtain ⟨z, hz, rfl⟩ := Option.map_eq_some_iff.1 hv
      have hi : i < c := by rw [← h5]; exact (List.getElem?_eq_some_iff.1 hz).1
      refine ⟨.int k z, ?_, rfl⟩
      rw [hcell i hi, List.getD_eq_getElem?_getD, hz]
      rfl
end Go.Am
