/- A text of the claim: AmDraw1, AmDraw2, AmDraw3, AmDraw4, AmDraw5, AmDraw6, AmDraw7, AmDraw8. -/
import Derived.Test.YtmgkfcdmpbcmkaaGreatDoorAmA
import Derived.Test.YtmgkfcdmpbcmkaaGreatDoorAmD
/- Regions that draw their order: what is asked of the plan; what a run in the text's order leaves. -/
namespace Go.Am

variable {P : Program}

/- ### the plan -/
def maskOf (ms : List Nat) : List Edge → Nat
  | [] => 0
  | e :: es => (cond (Region.binds .any e) ((1 <<< e.on) ||| ms.getD e.on 0) 0) ||| maskOf ms es
def kindOK (c k : Nat) : Bool := match c with
  | 0 => Nat.beq k 0
  | 1 => Nat.beq k 1
  | 2 => Nat.beq k 0
  | _ => Nat.ble 2 k
def dstOK (a b : Option Tmp) : Bool := match a, b with
  | some a, some b => !Nat.beq a b
  | _, _ => true
def checkedOK (ci cj i : Nat) (lj : List Nat) : Bool := match ci with
  | 3 => match cj with
    | 3 => false
    | 1 => lj.any (Nat.beq i)
    | _ => true
  | 1 => match cj with
    | 3 => lj.any (Nat.beq i)
    | _ => true
  | _ => true
def pairOK (P : Program) (ops : Array Oper) (i : Nat) (oi : Oper) (ki : Nat) (oj : Oper) (mj : Nat) (lj : List Nat) : Bool :=
  dstOK oi.dst oj.dst && (mj.testBit i || (oi.apart ops oj && checkedOK (cls P oi.op) (cls P oj.op) i lj && (!Nat.beq ki 3 || tame oj.op)))
def planOK (P : Program) (ops : Array Oper) (ms : List Nat) (ks : List (Nat × List Nat)) : Bool :=
  Nat.beq ks.length ops.size && (List.range ops.size).all fun i => match ops[i]?, ms[i]?, ks[i]? with
    | some o, some m, some (k, _) => Nat.beq m (maskOf ms o.after.toList) && o.after.toList.all (fun e => !Region.binds .any e || Nat.blt e.on i) && kindOK (cls P o.op) k &&
        (List.range ops.size).all fun j => !Nat.blt i j || match ops[j]?, ms[j]?, ks[j]? with
          | some oj, some mj, some (_, lj) => pairOK P ops i o k oj mj lj
          | _, _, _ => false
    | _, _, _ => false

theorem maskOf_bit {ms : List Nat} {j : Nat} : ∀ {es : List Edge}, (maskOf ms es).testBit j = true → ∃ e ∈ es, Region.binds .any e = true ∧ (e.on = j ∨ (ms.getD e.on 0).testBit j = true)
  | [], h => by simp [maskOf] at h
  | e :: es, h => by
    simp only [maskOf, Nat.testBit_or, Bool.or_eq_true] at h
    rcases h with h | h
    · cases hb : Region.binds .any e with
      | false => rw [hb] at h; simp at h
      | true =>
        rw [hb] at h
        simp only [cond, Nat.testBit_or, Bool.or_eq_true] at h
        refine ⟨e, by simp, hb, h.imp (fun h => ?_) id⟩
        rw [Nat.one_shiftLeft, Nat.testBit_two_pow] at h
        simpa using h
    · obtain ⟨e', h1, h2⟩ := maskOf_bit h
      exact ⟨e', by simp [h1], h2⟩

structure PlanOK (P : Program) (ops : Array Oper) (ms : List Nat) (ks : List (Nat × List Nat)) : Prop where
  len : ks.length = ops.size
  at_ : ∀ i o, ops[i]? = some o → ∃ k l, ks[i]? = some (k, l) ∧ kindOK (cls P o.op) k = true ∧
    (∀ e ∈ o.after.toList, Region.binds .any e = true → e.on < i) ∧ (∀ j, (ms.getD i 0).testBit j = true → ∃ e ∈ o.after.toList, Region.binds .any e = true ∧ (e.on = j ∨ (ms.getD e.on 0).testBit j = true))
  pair : ∀ i j oi oj, i < j → ops[i]? = some oi → ops[j]? = some oj → dstOK oi.dst oj.dst = true ∧ ((ms.getD j 0).testBit i = true ∨ (oi.apart ops oj = true ∧
    (∀ l k, ks[j]? = some (k, l) → checkedOK (cls P oi.op) (cls P oj.op) i l = true) ∧ (∀ l, ks[i]? = some (3, l) → tame oj.op = true)))

theorem planOK_spec {ops : Array Oper} {ms : List Nat} {ks : List (Nat × List Nat)} (h : planOK P ops ms ks = true) : PlanOK P ops ms ks := by
  unfold planOK at h
  rw [Bool.and_eq_true] at h
  obtain ⟨h1, h2⟩ := h
  have hlen := Nat.eq_of_beq_eq_true h1
  rw [List.all_eq_true] at h2
  have key : ∀ i o, ops[i]? = some o → ∃ m k l, ms[i]? = some m ∧ ks[i]? = some (k, l) ∧ m = maskOf ms o.after.toList ∧ (∀ e ∈ o.after.toList, Region.binds .any e = true → e.on < i) ∧ kindOK (cls P o.op) k = true ∧
      ∀ j oj, ops[j]? = some oj → i < j → ∃ mj kj lj, ms[j]? = some mj ∧ ks[j]? = some (kj, lj) ∧ pairOK P ops i o k oj mj lj = true := fun i o ho => by
    have hi : i < ops.size := (Array.getElem?_eq_some_iff.1 ho).1
    have := h2 i (by simpa using hi)
    rw [ho] at this
    rcases hm : ms[i]? with _ | m
    · rw [hm] at this; simp at this
    · rcases hk : ks[i]? with _ | ⟨k, l⟩
      · rw [hm, hk] at this; simp at this
      · rw [hm, hk] at this
        simp only [Bool.and_eq_true] at this
        obtain ⟨⟨⟨q1, q2⟩, q3⟩, q4⟩ := this
        refine ⟨m, k, l, rfl, rfl, Nat.eq_of_beq_eq_true q1, fun e he hb => ?_, q3, fun j oj hj hij => ?_⟩
        · rw [List.all_eq_true] at q2
          have := q2 e he
          rw [hb] at this
          simpa [Nat.blt_eq] using this
        · rw [List.all_eq_true] at q4
          have hjn : j < ops.size := (Array.getElem?_eq_some_iff.1 hj).1
          have := q4 j (by simpa using hjn)
          rw [show Nat.blt i j = true from by simpa [Nat.blt_eq] using hij, hj] at this
          rcases hm2 : ms[j]? with _ | mj
          · rw [hm2] at this; simp at this
          · rcases hk2 : ks[j]? with _ | ⟨kj, lj⟩
            · rw [hm2, hk2] at this; simp at this
            · rw [hm2, hk2] at this
              exact ⟨mj, kj, lj, rfl, rfl, by simpa using this⟩
  refine ⟨hlen, fun i o ho => ?_, fun i j oi oj hij hi hj => ?_⟩
  · obtain ⟨m, k, l, q1, q2, q3, q4, q5, _⟩ := key i o ho
    refine ⟨k, l, q2, q5, q4, fun j hj => ?_⟩
    have : ms.getD i 0 = maskOf ms o.after.toList := by rw [List.getD_eq_getElem?_getD, q1, q3]; rfl
    rw [this] at hj
    exact maskOf_bit hj
  · obtain ⟨m, k, l, q1, q2, q3, q4, q5, q6⟩ := key i oi hi
    obtain ⟨mj, kj, lj, r1, r2, r3⟩ := q6 j oj hj hij
    unfold pairOK at r3
    simp only [Bool.and_eq_true, Bool.or_eq_true] at r3
    refine ⟨r3.1, ?_⟩
    have : ms.getD j 0 = mj := by rw [List.getD_eq_getElem?_getD, r1]; rfl
    rw [this]
    refine r3.2.imp id fun h => ⟨h.1.1, fun l' k' e => ?_, fun l' e => ?_⟩
    · rw [r2] at e; cases e; exact h.1.2
    · rw [q2] at e; cases e
      simpa using h.2

/- ### the run in the text's order -/
structure Trace (P : Program) (C : CallOp) (ops : Array Oper) (ks : List (Nat × List Nat)) (env0 : List AV) (h0 : AHeap) (m : Nat) (hs : Nat → AHeap) (es : Nat → List AV) (vs : Nat → AV) : Prop where
  hs0 : hs 0 = h0
  es0 : es 0 = env0
  step : ∀ i, i < m → ∃ o k l, ops[i]? = some o ∧ ks[i]? = some (k, l) ∧ opA P C ops (es i) o (hs i) = .ok (vs i) (hs (i + 1)) ∧ es (i + 1) = putA (es i) o.dst (vs i)
  back : ∀ i, i < m → ∀ o l, ops[i]? = some o → ks[i]? = some (1, l) → ∀ q ∈ l, q < i ∧ looksBelow (es i) (hs q).next (o.looksAt ops) = true ∧ same P ops ⟨i, o, es i, vs i, 0⟩ (hs q) = true
  on : ∀ q, q < m → ∀ k l, ks[q]? = some (k, l) → 2 ≤ k → (hs q).next ≤ (hs (q + 1)).next ∧
    ∀ i ∈ l, i < q ∧ ∃ o, ops[i]? = some o ∧ AV.under (hs i).next (vs i) = true ∧ same P ops ⟨i, o, es i, vs i, 0⟩ (hs (q + 1)) = true

def Ended {β : Type} (P : Program) (C : CallOp) (ops : Array Oper) (ks : List (Nat × List Nat)) (K : List AV → AM β) (r : Res β) (m : Nat) (hs : Nat → AHeap) (es : Nat → List AV) : Prop :=
  (m = ops.size ∧ K (es m) (hs m) = r) ∨ ∃ o l x hp, ops[m]? = some o ∧ ks[m]? = some (3, l) ∧ opA P C ops (es m) o (hs m) = .pan x hp ∧ r = .pan x hp

theorem chkBack_spec {ops : Array Oper} {r : Rd} {hv : List (Nat × AHeap)} : ∀ {l : List Nat}, chkBack P ops r hv l = true → ∀ q ∈ l, ∃ h, heapAt hv q = some h ∧ looksBelow r.env h.next (r.o.looksAt ops) = true ∧ same P ops r h = true
  | [], _, q, hq => by cases hq
  | p :: l, h, q, hq => by
    simp only [chkBack] at h
    rcases hh : heapAt hv p with _ | x
    · rw [hh] at h; cases h
    · rw [hh] at h
      simp only [Bool.and_eq_true] at h
      cases hq with
      | head => exact ⟨x, hh, h.1, h.2.1⟩
      | tail _ hq => exact chkBack_spec h.2.2 q hq
theorem chkOn_spec {ops : Array Oper} {rd : List Rd} {h : AHeap} : ∀ {l : List Nat}, chkOn P ops rd h l = true → ∀ i ∈ l, ∃ r, readAt rd i = some r ∧ AV.under r.nx r.v = true ∧ same P ops r h = true
  | [], _, q, hq => by cases hq
  | p :: l, h, q, hq => by
    simp only [chkOn] at h
    rcases hh : readAt rd p with _ | x
    · rw [hh] at h; cases h
    · rw [hh] at h
      simp only [Bool.and_eq_true] at h
      cases hq with
      | head => exact ⟨x, hh, h.1, h.2.1⟩
      | tail _ hq => exact chkOn_spec h.2.2 q hq

theorem heapAt_spec : ∀ {hv : List (Nat × AHeap)} {q : Nat} {h : AHeap}, heapAt hv q = some h → (q, h) ∈ hv
  | [], q, h, e => by cases e
  | (p, x) :: l, q, h, e => by
    simp only [heapAt] at e
    cases hb : Nat.beq p q with
    | true => rw [hb] at e; simp at e; subst e; rw [Nat.eq_of_beq_eq_true hb]; simp
    | false => rw [hb] at e; simp [heapAt_spec e]
theorem readAt_spec : ∀ {rd : List Rd} {q : Nat} {r : Rd}, readAt rd q = some r → r ∈ rd ∧ r.i = q
  | [], q, h, e => by cases e
  | x :: l, q, h, e => by
    simp only [readAt] at e
    cases hb : Nat.beq x.i q with
    | true => rw [hb] at e; simp at e; subst e; exact ⟨by simp, Nat.eq_of_beq_eq_true hb⟩
    | false => rw [hb] at e; obtain ⟨h1, h2⟩ := readAt_spec e; exact ⟨by simp [h1], h2⟩

section
variable {C : CallOp} {ops : Array Oper} {β : Type} {K : List AV → AM β} {l : List Nat} {ks : List (Nat × List Nat)} {i : Nat} {env : List AV} {hv : List (Nat × AHeap)} {rd : List Rd} {h : AHeap} {o : Oper}
theorem evalD_0 (ho : ops[i]? = some o) : evalD P C ops ((0, l) :: ks) i env hv rd K h = bindP false (opA P C ops env o) (fun v => evalD P C ops ks (i + 1) (putA env o.dst v) hv rd K) h := by
  simp only [evalD]; rw [ho]; rfl
theorem evalD_1 (ho : ops[i]? = some o) : evalD P C ops ((1, l) :: ks) i env hv rd K h = bindP false (opA P C ops env o)
    (fun v h' => cond (chkBack P ops ⟨i, o, env, v, h.next⟩ hv l) (evalD P C ops ks (i + 1) (putA env o.dst v) hv (⟨i, o, env, v, h.next⟩ :: rd) K h') .bad) h := by
  simp only [evalD]; rw [ho]; rfl
theorem evalD_2 (ho : ops[i]? = some o) (k : Nat) : evalD P C ops ((k + 2, l) :: ks) i env hv rd K h = bindP (Nat.beq (k + 2) 3) (opA P C ops env o)
    (fun v h' => cond (Nat.ble h.next h'.next && chkOn P ops rd h' l) (evalD P C ops ks (i + 1) (putA env o.dst v) ((i, h) :: hv) rd K h') .bad) h := by
  simp only [evalD]; rw [ho]; rfl
end

theorem evalD_trace {C : CallOp} {ops : Array Oper} {β : Type} {K : List AV → AM β} {r : Res β} (hbad : r ≠ .bad) {ks0 : List (Nat × List Nat)} {env0 : List AV} {h0 : AHeap} :
    ∀ (ks : List (Nat × List Nat)) (i : Nat) (env : List AV) (hv : List (Nat × AHeap)) (rd : List Rd) (h : AHeap), ks0.drop i = ks → evalD P C ops ks i env hv rd K h = r →
    ∀ hs es vs, Trace P C ops ks0 env0 h0 i hs es vs → hs i = h → es i = env → (∀ q x, (q, x) ∈ hv → q < i ∧ x = hs q) → (∀ x ∈ rd, x.i < i ∧ ops[x.i]? = some x.o ∧ x.env = es x.i ∧ x.v = vs x.i ∧ x.nx = (hs x.i).next) →
    ∃ m hs es vs, Trace P C ops ks0 env0 h0 m hs es vs ∧ Ended P C ops ks0 K r m hs es
  | [], i, env, hv, rd, h, hk, e, hs, es, vs, ht, e1, e2, _, _ => by
    simp only [evalD] at e
    cases hb : Nat.beq i ops.size with
    | false => rw [hb] at e; exact absurd e.symm hbad
    | true =>
      rw [hb] at e
      exact ⟨i, hs, es, vs, ht, .inl ⟨Nat.eq_of_beq_eq_true hb, by rw [e1, e2]; exact e⟩⟩
  | (k, l) :: ks, i, env, hv, rd, h, hk, e, hs, es, vs, ht, e1, e2, hhv, hrd => by
    have hki : ks0[i]? = some (k, l) := by
      have := congrArg (fun x => x[0]?) hk
      simpa using this
    have hk' : ks0.drop (i + 1) = ks := by
      have := congrArg (List.drop 1) hk
      simpa [List.drop_drop] using this
    rcases ho : ops[i]? with _ | o
    · simp only [evalD, ho] at e; exact absurd e.symm hbad
    · -- the functions, one step on
      have next : ∀ v h' hv' rd', opA P C ops env o h = .ok v h' → evalD P C ops ks (i + 1) (putA env o.dst v) hv' rd' K h' = r →
          (k = 1 → ∀ q ∈ l, ∃ x, (q, x) ∈ hv ∧ looksBelow env x.next (o.looksAt ops) = true ∧ same P ops ⟨i, o, env, v, h.next⟩ x = true) →
          (2 ≤ k → h.next ≤ h'.next ∧ ∀ j ∈ l, ∃ x ∈ rd, x.i = j ∧ AV.under x.nx x.v = true ∧ same P ops x h' = true) →
          (∀ q x, (q, x) ∈ hv' → (q, x) ∈ hv ∨ (q = i ∧ x = h)) → (∀ x ∈ rd', x ∈ rd ∨ x = ⟨i, o, env, v, h.next⟩) →
          ∃ m hs es vs, Trace P C ops ks0 env0 h0 m hs es vs ∧ Ended P C ops ks0 K r m hs es := fun v h' hv' rd' hop he hback hon hhv' hrd' => by
        let hs' : Nat → AHeap := fun j => if j = i + 1 then h' else hs j
        let es' : Nat → List AV := fun j => if j = i + 1 then putA env o.dst v else es j
        let vs' : Nat → AV := fun j => if j = i then v else vs j
        have hh : ∀ j, j ≤ i → hs' j = hs j := fun j hj => by simp only [hs']; rw [if_neg (by omega)]
        have hee : ∀ j, j ≤ i → es' j = es j := fun j hj => by simp only [es']; rw [if_neg (by omega)]
        have hvv : ∀ j, j < i → vs' j = vs j := fun j hj => by simp only [vs']; rw [if_neg (by omega)]
        have hn : hs' (i + 1) = h' := by simp [hs']
        have en : es' (i + 1) = putA env o.dst v := by simp [es']
        have vn : vs' i = v := by simp [vs']
        refine evalD_trace hbad ks (i + 1) _ hv' rd' h' hk' he hs' es' vs' ?_ hn en ?_ ?_
        · refine ⟨by rw [hh 0 (by omega)]; exact ht.hs0, by rw [hee 0 (by omega)]; exact ht.es0, fun j hj => ?_, fun j hj o' l' ho' hl' q hq => ?_, fun q hq k' l' hl' hk2 => ?_⟩
          · rcases Nat.lt_or_eq_of_le (Nat.le_of_lt_succ hj) with hj' | rfl
            · rw [hh j (by omega), hh (j + 1) (by omega), hee j (by omega), hee (j + 1) (by omega), hvv j hj']
              exact ht.step j hj'
            · rw [hh j (by omega), hn, hee j (by omega), en, vn, e1, e2]
              exact ⟨o, k, l, ho, hki, hop, rfl⟩
          · rcases Nat.lt_or_eq_of_le (Nat.le_of_lt_succ hj) with hj' | rfl
            · have := ht.back j hj' o' l' ho' hl' q hq
              rw [hh q (by omega), hee j (by omega), hvv j hj']
              exact this
            · rw [ho] at ho'; cases ho'
              rw [hki] at hl'; cases hl'
              obtain ⟨x, x1, x2, x3⟩ := hback rfl q hq
              obtain ⟨x4, rfl⟩ := hhv q x x1
              rw [hh q (by omega), hee j (by omega), vn, e2]
              exact ⟨x4, x2, x3⟩
          · rcases Nat.lt_or_eq_of_le (Nat.le_of_lt_succ hq) with hq' | rfl
            · have := ht.on q hq' k' l' hl' hk2
              rw [hh q (by omega), hh (q + 1) (by omega)]
              refine ⟨this.1, fun j hj => ?_⟩
              obtain ⟨a1, a2⟩ := this.2 j hj
              rw [hh j (by omega), hee j (by omega), hvv j (by omega)]
              exact ⟨a1, a2⟩
            · rw [hki] at hl'; cases hl'
              obtain ⟨b1, b2⟩ := hon hk2
              rw [hh q (by omega), hn, e1]
              refine ⟨b1, fun j hj => ?_⟩
              obtain ⟨x, x1, rfl, x3, x4⟩ := b2 j hj
              obtain ⟨y1, y2, y3, y4, y5⟩ := hrd x x1
              rw [hh x.i (by omega), hee x.i (by omega), hvv x.i y1]
              refine ⟨y1, x.o, y2, by rw [← y5, ← y4]; exact x3, ?_⟩
              rw [← y3, ← y4]; exact x4
        · intro q x hx
          rcases hhv' q x hx with h1 | ⟨rfl, rfl⟩
          · obtain ⟨a1, a2⟩ := hhv q x h1
            exact ⟨by omega, by rw [hh q (by omega)]; exact a2⟩
          · exact ⟨by omega, by rw [hh q (by omega), e1]⟩
        · intro x hx
          rcases hrd' x hx with h1 | rfl
          · obtain ⟨y1, y2, y3, y4, y5⟩ := hrd x h1
            exact ⟨by omega, y2, by rw [hee _ (by omega)]; exact y3, by rw [hvv _ y1]; exact y4, by rw [hh _ (by omega)]; exact y5⟩
          · exact ⟨by simp, ho, by rw [hee _ (by simp)]; exact e2.symm, vn.symm, by rw [hh _ (by simp)]; simp [e1]⟩
      match k, hki, e, next with
      | 0, hki, e, next =>
        rw [evalD_0 ho] at e
        simp only [bindP] at e
        cases hop : opA P C ops env o h with
        | bad => rw [hop] at e; exact absurd e.symm hbad
        | pan x hp => rw [hop] at e; exact absurd e.symm hbad
        | ok v h' =>
          rw [hop] at e
          exact next v h' hv rd hop e (fun h => by omega) (fun h => by omega) (fun q x hx => .inl hx) (fun x hx => .inl hx)
      | 1, hki, e, next =>
        rw [evalD_1 ho] at e
        simp only [bindP] at e
        cases hop : opA P C ops env o h with
        | bad => rw [hop] at e; exact absurd e.symm hbad
        | pan x hp => rw [hop] at e; exact absurd e.symm hbad
        | ok v h' =>
          rw [hop] at e
          simp only at e
          cases hc : chkBack P ops ⟨i, o, env, v, h.next⟩ hv l with
          | false => rw [hc] at e; exact absurd e.symm hbad
          | true =>
            rw [hc] at e
            refine next v h' hv (⟨i, o, env, v, h.next⟩ :: rd) hop e (fun _ q hq => ?_) (fun h => by omega) (fun q x hx => .inl hx) (fun x hx => ?_)
            · obtain ⟨x, x1, x2, x3⟩ := chkBack_spec hc q hq
              exact ⟨x, heapAt_spec x1, x2, x3⟩
            · cases hx with
              | head => exact .inr rfl
              | tail _ hx => exact .inl hx
      | k + 2, hki, e, next =>
        rw [evalD_2 ho] at e
        simp only [bindP] at e
        cases hop : opA P C ops env o h with
        | bad => rw [hop] at e; exact absurd e.symm hbad
        | pan x hp =>
          rw [hop] at e
          simp only at e
          cases hk3 : Nat.beq (k + 2) 3 with
          | false => rw [hk3] at e; exact absurd e.symm hbad
          | true =>
            rw [hk3] at e
            have : k + 2 = 3 := Nat.eq_of_beq_eq_true hk3
            rw [this] at hki
            exact ⟨i, hs, es, vs, ht, .inr ⟨o, l, x, hp, ho, hki, by rw [e1, e2]; exact hop, e.symm⟩⟩
        | ok v h' =>
          rw [hop] at e
          simp only at e
          cases hc : (Nat.ble h.next h'.next && chkOn P ops rd h' l) with
          | false => rw [hc] at e; exact absurd e.symm hbad
          | true =>
            rw [hc] at e
            rw [Bool.and_eq_true] at hc
            refine next v h' ((i, h) :: hv) rd hop e (fun h => by omega) (fun _ => ⟨Nat.le_of_ble_eq_true hc.1, fun j hj => ?_⟩) (fun q x hx => ?_) (fun x hx => .inl hx)
            · obtain ⟨x, x1, x2, x3⟩ := chkOn_spec hc.2 j hj
              obtain ⟨x4, x5⟩ := readAt_spec x1
              exact ⟨x, x4, x5, x2, x3⟩
            · cases hx with
              | head => exact .inr ⟨rfl, rfl⟩
              | tail _ hx => exact .inl hx
end Go.Am
/- Regions that draw their order: cutting an injection, linking a block late. -/
namespace Go.Am

variable {P : Program}

/- ### cutting -/
def cut (μ : Inj) (n : Nat) : Inj := fun b => if b < n then μ b else none
theorem cut_lt {μ : Inj} {n b : Nat} (h : b < n) : cut μ n b = μ b := by simp [cut, h]
theorem cut_ge {μ : Inj} {n b : Nat} (h : n ≤ b) : cut μ n b = none := by simp [cut, Nat.not_lt.2 h]
theorem cut_some {μ : Inj} {n b : Nat} {x : Nat × Nat × Nat} (h : cut μ n b = some x) : b < n ∧ μ b = some x := by
  rcases Nat.lt_or_ge b n with h1 | h1
  · rw [cut_lt h1] at h; exact ⟨h1, h⟩
  · rw [cut_ge h1] at h; cases h
theorem cut_le (μ : Inj) (n : Nat) : (cut μ n).le μ := fun _ _ h => (cut_some h).2
theorem cut_mono {μ : Inj} {n m : Nat} (h : n ≤ m) : (cut μ n).le (cut μ m) := fun b x e => by
  obtain ⟨h1, h2⟩ := cut_some e
  rw [cut_lt (by omega)]; exact h2
theorem cut_le_cut {μ μ' : Inj} (h : μ.le μ') (n : Nat) : (cut μ n).le (cut μ' n) := fun b x e => by
  obtain ⟨h1, h2⟩ := cut_some e
  rw [cut_lt h1]; exact h _ _ h2

mutual
theorem VRel.cut {μ : Inj} {n : Nat} : ∀ (a : AV) (v : Value), VRel μ a v → AV.under n a = true → VRel (cut μ n) a v := fun a v h hu => by
  cases a with
  | top => trivial
  | bool => exact h
  | int => exact h
  | str => exact h
  | ptr a => cases a with
    | none => exact h
    | some l =>
      obtain ⟨C, d, S, h1, h2⟩ := h
      exact ⟨C, d, S, by rw [cut_lt (by simpa [AV.under, Nat.blt_eq] using hu)]; exact h1, h2⟩
  | snil => exact h
  | szero => exact h
  | sl b o n' es =>
    obtain ⟨C, d, S, a, cap, h1, h2⟩ := h
    exact ⟨C, d, S, a, cap, by rw [cut_lt (by simpa [AV.under, Nat.blt_eq] using hu)]; exact h1, h2⟩
  | map r => cases r with
    | none => exact h
    | some r =>
      obtain ⟨C, d, S, h1, h2⟩ := h
      exact ⟨C, d, S, by rw [cut_lt (by simpa [AV.under, Nat.blt_eq] using hu)]; exact h1, h2⟩
  | func fn a c =>
    obtain ⟨a', c', h1, h2, h3⟩ := h
    rw [AV.under, Bool.and_eq_true] at hu
    exact ⟨a', c', h1, VRels.cut _ _ h2 hu.1, VRels.cut _ _ h3 hu.2⟩
  | nilFunc => exact h
  | iface t x => obtain ⟨u, h1, h2⟩ := h; exact ⟨u, h1, VRel.cut _ _ h2 (by simpa [AV.under] using hu)⟩
  | nilIface => exact h
  | agg cs => obtain ⟨a, h1, h2⟩ := h; exact ⟨a, h1, VRels.cut _ _ h2 (by simpa [AV.under] using hu)⟩
  | tuple cs => obtain ⟨a, h1, h2⟩ := h; exact ⟨a, h1, VRels.cut _ _ h2 (by simpa [AV.under] using hu)⟩
theorem VRels.cut {μ : Inj} {n : Nat} : ∀ (a : List AV) (v : List Value), VRels μ a v → AV.unders n a = true → VRels (cut μ n) a v := fun a v h hu => by
  cases a with
  | nil => exact h
  | cons a as =>
    obtain ⟨v, vs, h1, h2, h3⟩ := h
    rw [AV.unders, Bool.and_eq_true] at hu
    exact ⟨v, vs, h1, VRel.cut _ _ h2 hu.1, VRels.cut _ _ h3 hu.2⟩
end
theorem looksBelow_spec {env : List AV} {n : Nat} : ∀ {l : List Nat}, looksBelow env n l = true → ∀ t ∈ l, AV.under n (env.getD t undefA) = true
  | [], _, t, ht => by cases ht
  | s :: l, h, t, ht => by
    rw [looksBelow, Bool.and_eq_true] at h
    cases ht with
    | head => exact h.1
    | tail _ ht => exact looksBelow_spec h.2 t ht

/- ### a new block that the model has not -/
theorem newBlk_objs_lt {h : AHeap} {o : AObj} {fl : Bool} {b : Nat} (hb : b < h.next) : (newBlk h o fl).objs.get b = h.objs.get b := Tr.get_set_ne _ _ _ _ (by omega)
theorem newBlk_fams_lt {h : AHeap} {o : AObj} {fl : Bool} {b : Nat} (hb : b < h.next) : (newBlk h o fl).fams.get b = h.fams.get b := by
  cases fl
  · rfl
  · exact Tr.get_set_ne _ _ _ _ (by omega)
theorem newBlk_objs_same {h : AHeap} {o : AObj} {fl : Bool} : (newBlk h o fl).objs.get h.next = some o := Tr.get_set_same _ _ _
theorem newBlk_fams_same {h : AHeap} {o : AObj} : (newBlk h o true).fams.get h.next = some (0, 0) := Tr.get_set_same _ _ _
theorem Rel.agree {μ : Inj} {h h' : AHeap} {w : World} (hr : Rel μ h w) (hn : h.next ≤ h'.next) (ho : ∀ b, b < h.next → h'.objs.get b = h.objs.get b) (hf : ∀ b, b < h.next → h'.fams.get b = h.fams.get b) : Rel μ h' w := by
  have blt : ∀ b x, μ b = some x → b < h.next := fun b x hm => by obtain ⟨C, d, S⟩ := x; exact (hr.obj b C d S hm).1
  have old : ∀ b x, μ b = some x → h'.objs.get b = h.objs.get b := fun b x hm => ho b (blt b x hm)
  exact
    { obj := fun b C d S hm => by
        obtain ⟨i1, i2, o, i3, i4⟩ := hr.obj b C d S hm
        refine ⟨by omega, i2, o, by rw [ho b i1]; exact i3, ObjRel.congr (h := h) (w := w) rfl (fun f hff => ?_) i4⟩
        cases o <;> simp at hff
        case row cs g v => subst hff; exact hf _ (by have := (hr.fid b _ cs _ v hm i3).1; omega)
      sep := fun b1 b2 C d1 S1 d2 S2 o1 o2 m1 m2 p1 p2 => hr.sep b1 b2 C d1 S1 d2 S2 o1 o2 m1 m2 (by rw [← old b1 _ m1]; exact p1) (by rw [← old b2 _ m2]; exact p2)
      ver := fun b1 b2 x1 x2 cs1 cs2 f v m1 m2 p1 p2 => hr.ver b1 b2 x1 x2 cs1 cs2 f v m1 m2 (by rw [← old b1 _ m1]; exact p1) (by rw [← old b2 _ m2]; exact p2)
      ord := fun b1 b2 C d1 S1 d2 S2 cs1 cs2 f v1 v2 top lo m1 m2 p1 p2 pf l1 l2 => by
        have q1 : h.objs.get b1 = some (.row cs1 f v1) := by rw [← old b1 _ m1]; exact p1
        refine hr.ord b1 b2 C d1 S1 d2 S2 cs1 cs2 f v1 v2 top lo m1 m2 q1 (by rw [← old b2 _ m2]; exact p2) ?_ l1 l2
        rw [← hf f (by have := (hr.fid b1 _ cs1 f v1 m1 q1).1; have := blt b1 _ m1; omega)]; exact pf
      fid := fun b x cs f v m p => hr.fid b x cs f v m (by rw [← old b _ m]; exact p) }
theorem Rel.junk {μ : Inj} {h : AHeap} {w : World} (hr : Rel μ h w) (o : AObj) (fl : Bool) : Rel μ (newBlk h o fl) w :=
  hr.agree (by simp [newBlk]) (fun _ hb => newBlk_objs_lt hb) (fun _ hb => newBlk_fams_lt hb)

/- ### a block of the model takes its name -/
theorem Inj.le_addInj {μ : Inj} {b : Nat} (h : μ b = none) (x : Nat × Nat × Nat) : μ.le (addInj μ b x) := fun k y e => by
  by_cases hk : k = b
  · subst hk; rw [h] at e; cases e
  · rw [addInj_ne _ _ _ _ hk]; exact e
theorem Rel.link {μ : Inj} {h : AHeap} {w : World} (hr : Rel μ h w) {b C S : Nat} {o : AObj} {fl : Bool} {x : Obj} (hb : μ b = none) (hbn : b < h.next) (ho : h.objs.get b = some o) (hf : fl = true → h.fams.get b = some (0, 0))
    (hc : Cont μ b o fl x S) (hx : w.heap[C]? = some x) (hd : ∀ b' d S', μ b' ≠ some (C, d, S')) : Rel (addInj μ b (C, 0, S)) h w := by
  have hle := Inj.le_addInj hb (C, 0, S)
  have hC : C < w.heap.size := (Array.getElem?_eq_some_iff.1 hx).1
  have old : ∀ k y, addInj μ b (C, 0, S) k = some y → k ≠ b → μ k = some y := fun k y e hk => by rw [addInj_ne _ _ _ _ hk] at e; exact e
  have fresh : ∀ k C' d' S', addInj μ b (C, 0, S) k = some (C', d', S') → k ≠ b → C' ≠ C := fun k C' d' S' e hk hCC => by subst hCC; exact hd k d' S' (old k _ e hk)
  have nofam : ∀ k y cs v, μ k = some y → h.objs.get k ≠ some (.row cs b v) := fun k y cs v hm e => by
    obtain ⟨_, z, hz⟩ := hr.fid k y cs b v hm e
    rw [hb] at hz; cases hz
  exact
    { obj := fun k C' d' S' e => by
        by_cases hk : k = b
        · subst hk
          rw [addInj_same] at e; cases e
          refine ⟨hbn, hC, o, ho, ?_⟩
          cases hc with
          | solo h1 h2 h3 => exact ⟨rfl, _, _, _, hx, rfl, h1, h2.mono hle, h3⟩
          | row h1 h2 h3 => exact ⟨0, 0, hf rfl, ⟨Nat.le_refl _, Nat.le_refl _⟩, _, _, _, hx, rfl, fun _ => ⟨by omega, h2.mono hle, h3⟩⟩
          | map => exact ⟨rfl, _, _, hx, rfl⟩
        · obtain ⟨i1, i2, o', i3, i4⟩ := hr.obj k C' d' S' (old k _ e hk)
          exact ⟨i1, i2, o', i3, i4.mono hle⟩
      sep := fun b1 b2 C' d1 S1 d2 S2 o1 o2 m1 m2 p1 p2 => by
        by_cases k1 : b1 = b
        · by_cases k2 : b2 = b
          · exact .inl (k1.trans k2.symm)
          · subst k1; rw [addInj_same] at m1; cases m1; exact absurd rfl (fresh b2 _ _ _ m2 k2)
        · by_cases k2 : b2 = b
          · subst k2; rw [addInj_same] at m2; cases m2; exact absurd rfl (fresh b1 _ _ _ m1 k1)
          · exact hr.sep b1 b2 C' d1 S1 d2 S2 o1 o2 (old _ _ m1 k1) (old _ _ m2 k2) p1 p2
      ver := fun b1 b2 x1 x2 cs1 cs2 f v m1 m2 p1 p2 => by
        have fam : ∀ k cs v, k = b → h.objs.get k = some (.row cs f v) → f = b := fun k cs v hk e => by
          subst hk; rw [ho] at e; cases e
          cases hc; rfl
        by_cases k1 : b1 = b
        · by_cases k2 : b2 = b
          · exact k1.trans k2.symm
          · have := fam b1 _ _ k1 p1; subst this; exact absurd p2 (nofam b2 _ _ _ (old _ _ m2 k2))
        · by_cases k2 : b2 = b
          · have := fam b2 _ _ k2 p2; subst this; exact absurd p1 (nofam b1 _ _ _ (old _ _ m1 k1))
          · exact hr.ver b1 b2 x1 x2 cs1 cs2 f v (old _ _ m1 k1) (old _ _ m2 k2) p1 p2
      ord := fun b1 b2 C' d1 S1 d2 S2 cs1 cs2 f v1 v2 top lo m1 m2 p1 p2 pf l1 l2 => by
        by_cases k1 : b1 = b
        · by_cases k2 : b2 = b
          · subst k1; subst k2; rw [m1] at m2; cases m2; rw [p1] at p2; cases p2; exact Nat.le_refl _
          · subst k1; rw [addInj_same] at m1; cases m1; exact absurd rfl (fresh b2 _ _ _ m2 k2)
        · by_cases k2 : b2 = b
          · subst k2; rw [addInj_same] at m2; cases m2; exact absurd rfl (fresh b1 _ _ _ m1 k1)
          · exact hr.ord b1 b2 C' d1 S1 d2 S2 cs1 cs2 f v1 v2 top lo (old _ _ m1 k1) (old _ _ m2 k2) p1 p2 pf l1 l2
      fid := fun k y cs f v m p => by
        by_cases hk : k = b
        · subst hk
          rw [ho] at p; cases p
          cases hc
          exact ⟨Nat.le_refl _, _, addInj_same _ _ _⟩
        · obtain ⟨i1, z, hz⟩ := hr.fid k y cs f v (old _ _ m hk) p
          exact ⟨i1, z, hle _ _ hz⟩ }

/- ### what has changed since the start -/
theorem Ext.grow {μ0 μ : Inj} {h0 h : AHeap} {w0 w w' : World} (e : Ext μ0 h0 w0 μ h w) (hg : Grown w w') : Ext μ0 h0 w0 μ h w' := by
  obtain ⟨⟨x, hx⟩, hos, hout⟩ := hg
  have hs : w.heap.size ≤ w'.heap.size := by rw [hx]; simp
  exact
    { sub := e.sub, newA := e.newA, newC := e.newC, next := e.next, size := Nat.le_trans e.size hs
      frC := fun C hC hro => by
        have := e.size
        rw [hx, Array.getElem?_append_left (by omega)]; exact e.frC C hC hro
      frA := e.frA, ro := e.ro, os := hos.trans e.os, output := hout.trans e.output }
theorem Ext.cut {μ0 μ : Inj} {h0 h : AHeap} {w0 w : World} {n : Nat} (e : Ext μ0 h0 w0 μ h w) (hn : ∀ b x, μ0 b = some x → b < n) : Ext μ0 h0 w0 (cut μ n) h w :=
  { sub := fun b x hb => by rw [cut_lt (hn b x hb)]; exact e.sub b x hb
    newA := fun b x hb => e.newA b x (cut_some hb).2
    newC := fun b C d S hb h0 => e.newC b C d S (cut_some hb).2 h0
    next := e.next, size := e.size, frC := e.frC, frA := e.frA, ro := e.ro, os := e.os, output := e.output }
theorem Ext.change {μ0 μ μ' : Inj} {h0 h h' : AHeap} {w0 w : World} (e : Ext μ0 h0 w0 μ h w) (hle : μ.le μ')
    (hnew : ∀ b C d S, μ' b = some (C, d, S) → μ b = some (C, d, S) ∨ (h0.next ≤ b ∧ (w0.heap.size ≤ C ∨ ∃ b0 d0 S0, μ0 b0 = some (C, d0, S0)))) (hdom : ∀ b x, μ0 b = some x → b < h0.next)
    (hn : h.next ≤ h'.next) (ho : ∀ b, b < h0.next → h'.objs.get b = h.objs.get b) (hf : ∀ b, b < h0.next → h'.fams.get b = h.fams.get b) : Ext μ0 h0 w0 μ' h' w :=
  { sub := Inj.le_trans e.sub hle
    newA := fun b x hb => by
      obtain ⟨C, d, S⟩ := x
      rcases hnew b C d S hb with h1 | ⟨h1, _⟩
      · exact e.newA b _ h1
      · exact .inr h1
    newC := fun b C d S hb h0 => by
      rcases hnew b C d S hb with h1 | ⟨_, h1⟩
      · exact e.newC b C d S h1 h0
      · exact h1
    next := Nat.le_trans e.next hn
    size := e.size, frC := e.frC
    frA := fun b hb h0 => by
      obtain ⟨h1, h2⟩ := e.frA b hb h0
      exact ⟨(ho b hb).trans h1, (hf b hb).trans h2⟩
    ro := fun b x hb hro => (ho b (hdom b x hb)).trans (e.ro b x hb hro)
    os := e.os, output := e.output }
end Go.Am
/- Regions that draw their order: one operation, by what it looks at. -/
namespace Go.Am

variable {P : Program}

/-- the temporaries that an operation looks at are related -/
def LooksRel (μ : Inj) (ops : Array Oper) (env : List AV) (a : Act) (o : Oper) : Prop := ∀ t ∈ o.looksAt ops, VRel μ (env.getD t undefA) (a.tmps.getD t undef)
theorem LooksRel.mono {μ μ' : Inj} (hm : μ.le μ') {ops : Array Oper} {env : List AV} {a : Act} {o : Oper} (h : LooksRel μ ops env a o) : LooksRel μ' ops env a o := fun t ht => (h t ht).mono hm

theorem wanted_look {μ : Inj} {ops : Array Oper} {env : List AV} {a : Act} {o : Oper} {b : Bool} (he : LooksRel μ ops env a o) (h : wantA ops env o = some b) : Region.wanted o (yielded ops a.tmps) = b := by
  unfold wantA at h
  unfold Region.wanted
  cases hg : o.guard with
  | none => rw [hg] at h; simpa using h
  | some g =>
    obtain ⟨j, want⟩ := g
    rw [hg] at h
    simp only at h ⊢
    unfold yielded
    rcases ho : ops[j]? with _ | oj
    · rw [ho] at h; simp at h; subst h; simp
    · rw [ho] at h
      simp only at h
      rcases hd : oj.dst with _ | d
      · rw [hd] at h; simp at h; subst h; simp [hd]
      · rw [hd] at h
        simp only at h
        have hv := he d (by unfold Oper.looksAt; rw [hg]; exact List.mem_append_right _ (by simp [ho, hd]))
        rw [Array.getD_eq_getD_getElem?] at hv
        split at h
        · rename_i t e
          simp at h
          rw [e, VRel] at hv
          rcases hq : a.tmps[d]? with _ | v
          · rw [hq] at hv; simp [undef] at hv
          · rw [hq] at hv; simp at hv; subst hv; simp [hd, hq, ← h]
        · rename_i e
          simp at h; subst h
          rw [e] at hv
          obtain ⟨x, hx, hx2⟩ := hv
          rcases hq : a.tmps[d]? with _ | v
          · simp [hd, hq]
          · rw [hq] at hx; simp at hx; subst hx; simp [hd, hq]
        · cases h

theorem look_ops {μ : Inj} {G : Nat} (hgl : GlobOK G μ) {ops : Array Oper} {env : List AV} {a : Act} {o : Oper} (he : LooksRel μ ops env a o) (hok : operOK G o = true) : ∀ x ∈ o.op.operands, VRel μ (evalO env x) (a.eval x) := fun x hx => by
  have hx' := List.all_eq_true.1 hok x (by simpa using hx)
  cases x with
  | tmp t => exact he t (List.mem_append_left _ (List.mem_filterMap.2 ⟨.tmp t, by simpa using hx, rfl⟩))
  | const v => exact absV_rel μ v
  | global g =>
    obtain ⟨S, e⟩ := hgl g (by simpa [glob, Nat.blt_eq] using hx')
    exact ⟨g, 0, S, e, rfl⟩
  | func f => exact ⟨_, _, rfl, rfl, rfl⟩

theorem opA_look {μ : Inj} {h : AHeap} {w : World} {G : Nat} (hr : Rel μ h w) (hgl : GlobOK G μ) {C : CallOp} (hC : CallOK P G C) (hrec : C recId [] h = .bad) {ops : Array Oper} {env : List AV} {a : Act} {o : Oper} (he : LooksRel μ ops env a o) (hok : operOK G o = true)
    (hb : opA P C ops env o h ≠ .bad) :
    (Region.wanted o (yielded ops a.tmps) = true ∧ Meets P μ h w (opA P C ops env o h) ((execOp a.eval o).run P w)) ∨ (Region.wanted o (yielded ops a.tmps) = false ∧ opA P C ops env o h = .ok undefA h) := by
  have hev := look_ops hgl he hok
  unfold opA at *
  cases hg : o.guard with
  | none =>
    rw [hg] at hb
    simp only at hb ⊢
    exact .inl ⟨by simp [Region.wanted, hg], aexec_sound hr hgl hC (fun _ => hrec) hev hb⟩
  | some g =>
    rw [hg] at hb
    simp only at hb ⊢
    rcases hw : wantA ops env o with _ | b
    · rw [hw] at hb; exact absurd rfl hb
    · rw [hw] at hb
      have := wanted_look he hw
      cases b with
      | true => exact .inl ⟨this, aexec_sound hr hgl hC (fun _ => hrec) hev hb⟩
      | false => exact .inr ⟨this, rfl⟩

/-- what one step of the region does in the model, where it makes no call -/
def Steps1 (P : Program) (ops : Array Oper) (o : Oper) (a : Act) (w : World) (u : Value) (w' : World) : Prop :=
  (Region.wanted o (yielded ops a.tmps) = true ∧ (execOp a.eval o).run P w = .ok (.value u) w') ∨ (Region.wanted o (yielded ops a.tmps) = false ∧ u = undef ∧ w' = w)
theorem Steps1.wpOp {ops : Array Oper} {Q : Exit → Act → World → Prop} {i : Nat} {o : Oper} (ho : ops[i]? = some o) {a : Act} {w w' : World} {u : Value} (h : Steps1 P ops o a w u w') {K : Act → World → Prop} (hk : K (a.put o.dst u) w') : wpOp P ops Q i K a w := by
  unfold Go.wpOp
  rw [ho]
  simp only
  rcases h with ⟨h1, h2⟩ | ⟨h1, rfl, rfl⟩
  · rw [if_pos h1]
    refine .inl ?_
    simp only [Oper.wp, h2, Oper.upon]
    exact hk
  · rw [if_neg (by simp [h1])]; exact hk

theorem opA_cases {C : CallOp} {ops : Array Oper} {env : List AV} {o : Oper} {h : AHeap} {v : AV} {h' : AHeap} (e : opA P C ops env o h = .ok v h') :
    (∀ h2 C2, opA P C2 ops env o h2 = aexec P C2 (evalO env) o.op h2) ∨ (v = undefA ∧ h' = h ∧ wantA ops env o = some false) := by
  unfold opA at e
  cases hg : o.guard with
  | none => exact .inl fun h2 C2 => by simp [opA, hg]
  | some g =>
    rw [hg] at e
    simp only at e
    rcases hw : wantA ops env o with _ | b
    · rw [hw] at e; cases e
    · rw [hw] at e
      cases b with
      | true => exact .inl fun h2 C2 => by simp [opA, hg, hw]
      | false => simp only [cond, AM.ret, Res.ok.injEq] at e; exact .inr ⟨e.1.symm, e.2.symm, rfl⟩

theorem opA_wanted {μ : Inj} {C : CallOp} {ops : Array Oper} {env : List AV} {a : Act} {o : Oper} {h : AHeap} {v : AV} {h' : AHeap} (he : LooksRel μ ops env a o) (e : opA P C ops env o h = .ok v h') :
    (aexec P C (evalO env) o.op h = .ok v h' ∧ Region.wanted o (yielded ops a.tmps) = true) ∨ (v = undefA ∧ h' = h ∧ Region.wanted o (yielded ops a.tmps) = false) := by
  unfold opA at e
  cases hg : o.guard with
  | none => rw [hg] at e; exact .inl ⟨e, by simp [Region.wanted, hg]⟩
  | some g =>
    rw [hg] at e
    simp only at e
    rcases hw : wantA ops env o with _ | b
    · rw [hw] at e; cases e
    · rw [hw] at e
      have := wanted_look he hw
      cases b with
      | true => exact .inl ⟨e, this⟩
      | false => simp only [cond, AM.ret, Res.ok.injEq] at e; exact .inr ⟨e.1.symm, e.2.symm, this⟩

/-- a light operation leaves the memory, or makes one new block -/
theorem opA_light {C : CallOp} {ops : Array Oper} {env : List AV} {o : Oper} {h : AHeap} {v : AV} {h' : AHeap} (hc : cls P o.op ≠ 3) (hle : cls P o.op ≤ 3) (e : opA P C ops env o h = .ok v h') :
    (cls P o.op ≤ 1 → h' = h) ∧ (h' = h ∨ ∃ x fl, FreshObj h.next x fl ∧ h' = newBlk h x fl) := by
  rcases opA_cases e with h1 | ⟨_, h1, _⟩
  · rw [h1] at e
    rcases Nat.lt_or_ge (cls P o.op) 1 with h0 | h0
    · obtain ⟨_, hp⟩ := aexec_pure (P := P) (ev := evalO env) (op := o.op) (by omega)
      have : h' = h := by
        rcases hp C with hp | ⟨u, hp⟩
        · rw [hp] at e; cases e
        · rw [hp] at e; cases e; rfl
      exact ⟨fun _ => this, .inl this⟩
    · rcases Nat.lt_or_ge (cls P o.op) 2 with h2 | h2
      · obtain ⟨_, hp⟩ := aexec_read (P := P) (ev := evalO env) (op := o.op) (by omega)
        have : h' = h := by
          rcases hp C h with hp | ⟨u, hp⟩
          · rw [hp] at e; cases e
          · rw [hp] at e; cases e; rfl
        exact ⟨fun _ => this, .inl this⟩
      · refine ⟨fun h => by omega, ?_⟩
        obtain ⟨_, hp⟩ := aexec_new (P := P) (ev := evalO env) (op := o.op) (by omega)
        rcases hp C with (hp | ⟨u, hp⟩) | ⟨ob, av, fl, hf, hp⟩
        · rw [hp] at e; cases e
        · rw [hp] at e; cases e; exact .inl rfl
        · rw [hp] at e; cases e; exact .inr ⟨_, fl, hf _, rfl⟩
  · exact ⟨fun _ => h1, .inl h1⟩

/-- a light operation, run in the model -/
theorem light_run {μ : Inj} {h : AHeap} {w : World} {G : Nat} (hgl : GlobOK G μ) {C : CallOp} {ops : Array Oper} {env : List AV} {a : Act} {o : Oper} (he : LooksRel μ ops env a o) (hok : operOK G o = true) (hc : cls P o.op ≠ 3) (hle : cls P o.op ≤ 3)
    (hr : cls P o.op = 1 → Rel μ h w) {v : AV} {h' : AHeap} (e : opA P C ops env o h = .ok v h') :
    (∃ u w', Steps1 P ops o a w u w' ∧ VRel μ v u ∧ Grown w w' ∧ h' = h) ∨
    ∃ (av : Nat → AV) (u : Value) (w' : World) (x : AObj) (fl : Bool) (ob : Obj) (S : Nat), Steps1 P ops o a w u w' ∧ v = av h.next ∧ h' = newBlk h x fl ∧ w'.heap = w.heap.push ob ∧ w'.os = w.os ∧ w'.output = w.output ∧ Cont μ h.next x fl ob S ∧
      ∀ μ' b, μ' b = some (w.heap.size, 0, S) → VRel μ' (av b) u := by
  have hev := look_ops hgl he hok
  rcases opA_wanted he e with ⟨e', hw⟩ | ⟨rfl, rfl, hw⟩
  · obtain ⟨l1, l2⟩ := aexec_light (P := P) (C := C) (w := w) hc hr hev (by rw [e']; simp)
    rcases Nat.lt_or_ge (cls P o.op) 2 with h2 | h2
    · obtain ⟨a', u, q1, q2, q3⟩ := l1 (by omega)
      rw [e'] at q1; cases q1
      exact .inl ⟨u, w, .inl ⟨hw, q2⟩, q3, Grown.refl w, rfl⟩
    · rcases l2 (by omega) with ⟨a', u, w', q1, q2, q3, q4⟩ | ⟨av, u, w', x, fl, ob, S, q1, q2, q3⟩
      · rw [e'] at q1; cases q1
        exact .inl ⟨u, w', .inl ⟨hw, q2⟩, q3, q4, rfl⟩
      · rw [e'] at q1; cases q1
        exact .inr ⟨av, u, w', x, fl, ob, S, .inl ⟨hw, q2⟩, rfl, rfl, q3⟩
  · exact .inl ⟨undef, w, .inr ⟨hw, rfl, rfl⟩, undef_rel μ, Grown.refl w, rfl⟩

theorem cls_le (op : Op) : cls P op ≤ 3 := by
  unfold cls
  split <;> try decide
  · unfold clsConv; split <;> decide
  · split <;> decide
end Go.Am
/- Regions that draw their order: the walk through what stands between two heavy operations. -/
namespace Go.Am

variable {P : Program}

def Hv (P : Program) (ops : Array Oper) (i : Nat) : Prop := ∃ o, ops[i]? = some o ∧ cls P o.op = 3
theorem Hv.dec (P : Program) (ops : Array Oper) (i : Nat) : Hv P ops i ∨ ¬ Hv P ops i := Classical.em _

theorem FreshObj.eq {h : AHeap} {b : Nat} {x y : AObj} {fl gl : Bool} (h1 : FreshObj b x fl) (h2 : FreshObj b y gl) (e : newBlk h x fl = newBlk h y gl) : x = y ∧ fl = gl := by
  have : x = y := by
    have := congrArg (fun k => k.objs.get h.next) e
    simp only [newBlk_objs_same] at this
    exact Option.some.inj this
  subst this
  refine ⟨rfl, ?_⟩
  rcases h1 with ⟨rfl, h1⟩ | ⟨rfl, cs, rfl⟩ <;> rcases h2 with ⟨rfl, h2⟩ | ⟨rfl, cs', e'⟩
  · rfl
  · rcases h1 with ⟨c, rfl⟩ | ⟨c, rfl⟩ <;> cases e'
  · rcases h2 with ⟨c, e'⟩ | ⟨c, e'⟩ <;> cases e'
  · rfl

section
variable {C : CallOp} {ops : Array Oper} {ms : List Nat} {ks : List (Nat × List Nat)} {env0 : List AV} {h0 : AHeap} {m : Nat} {hs : Nat → AHeap} {es : Nat → List AV} {vs : Nat → AV}

/-- a light step of the run in the text's order -/
theorem Trace.light (tr : Trace P C ops ks env0 h0 m hs es vs) {i : Nat} (hi : i < m) (hl : ¬ Hv P ops i) : hs (i + 1) = hs i ∨ ∃ x fl, FreshObj (hs i).next x fl ∧ hs (i + 1) = newBlk (hs i) x fl := by
  obtain ⟨o, k, l, ho, _, he, _⟩ := tr.step i hi
  have hc : cls P o.op ≠ 3 := fun h => hl ⟨o, ho, h⟩
  exact (opA_light hc (cls_le _) he).2

theorem Trace.mono1 (hpl : PlanOK P ops ms ks) (tr : Trace P C ops ks env0 h0 m hs es vs) {i : Nat} (hi : i < m) : (hs i).next ≤ (hs (i + 1)).next := by
  rcases Hv.dec P ops i with hh | hh
  · obtain ⟨o, ho, hc⟩ := hh
    obtain ⟨k, l, hk, hkk, _⟩ := hpl.at_ i o ho
    rw [hc] at hkk
    exact (tr.on i hi k l hk (Nat.le_of_ble_eq_true hkk)).1
  · rcases tr.light hi hh with h | ⟨x, fl, _, h⟩
    · rw [h]; exact Nat.le_refl _
    · rw [h]; simp [newBlk]
theorem Trace.mono (hpl : PlanOK P ops ms ks) (tr : Trace P C ops ks env0 h0 m hs es vs) {i : Nat} : ∀ {j : Nat}, i ≤ j → j ≤ m → (hs i).next ≤ (hs j).next := by
  intro j
  induction j with
  | zero => intro h1 _; obtain rfl : i = 0 := by omega
            exact Nat.le_refl _
  | succ j ih =>
    intro h1 h2
    rcases Nat.lt_or_eq_of_le h1 with h | rfl
    · exact Nat.le_trans (ih (by omega) (by omega)) (tr.mono1 hpl (by omega))
    · exact Nat.le_refl _

/-- between heavy operations, old blocks stay -/
theorem Trace.seg (tr : Trace P C ops ks env0 h0 m hs es vs) {l : Nat} : ∀ {j : Nat}, l ≤ j → j ≤ m → (∀ i, l ≤ i → i < j → ¬ Hv P ops i) → ∀ b, b < (hs l).next → (hs j).objs.get b = (hs l).objs.get b ∧ (hs j).fams.get b = (hs l).fams.get b ∧ (hs l).next ≤ (hs j).next := by
  intro j
  induction j with
  | zero => intro h1 _ _ b _; obtain rfl : l = 0 := by omega
            exact ⟨rfl, rfl, Nat.le_refl _⟩
  | succ j ih =>
    intro h1 h2 hl b hb
    rcases Nat.lt_or_eq_of_le h1 with h | rfl
    · obtain ⟨i1, i2, i3⟩ := ih (by omega) (by omega) (fun i a1 a2 => hl i a1 (by omega)) b hb
      rcases tr.light (i := j) (by omega) (hl j (by omega) (by omega)) with e | ⟨x, fl, _, e⟩
      · rw [e]; exact ⟨i1, i2, i3⟩
      · rw [e, newBlk_objs_lt (by omega), newBlk_fams_lt (by omega)]
        exact ⟨i1, i2, Nat.le_trans i3 (by simp [newBlk])⟩
    · exact ⟨rfl, rfl, Nat.le_refl _⟩

theorem next_heavy (ops : Array Oper) (m : Nat) : ∀ (n l : Nat), m - l = n → l ≤ m → ∃ c, l ≤ c ∧ c ≤ m ∧ (c < m → Hv P ops c) ∧ ∀ j, l ≤ j → j < c → ¬ Hv P ops j
  | 0, l, hn, hl => ⟨l, Nat.le_refl _, hl, fun h => by omega, fun j a b => by omega⟩
  | n + 1, l, hn, hl => by
    rcases Hv.dec P ops l with hh | hh
    · exact ⟨l, Nat.le_refl _, hl, fun _ => hh, fun j a b => by omega⟩
    · obtain ⟨c, c1, c2, c3, c4⟩ := next_heavy ops m n (l + 1) (by omega) (by omega)
      refine ⟨c, by omega, c2, c3, fun j a b => ?_⟩
      rcases Nat.lt_or_eq_of_le a with h | rfl
      · exact c4 j (by omega) b
      · exact hh

/-- what a block holds that has its name ahead of its place in the text -/
def PendAt (μ : Inj) (hs : Nat → AHeap) (w : World) (i : Nat) (x : AObj) (fl : Bool) : Prop :=
  ∃ C' S' ob, μ (hs i).next = some (C', 0, S') ∧ w.heap[C']? = some ob ∧ Cont (cut μ (hs i).next) (hs i).next x fl ob S' ∧ ∀ b d S'', μ b = some (C', d, S'') → b = (hs i).next

theorem cut_succ_none {μ : Inj} {n : Nat} (h : μ n = none) : cut μ (n + 1) = cut μ n := by
  funext b
  rcases Nat.lt_trichotomy b n with h1 | rfl | h1
  · rw [cut_lt h1, cut_lt (by omega)]
  · rw [cut_ge (Nat.le_refl _), cut_lt (by omega)]; exact h
  · rw [cut_ge (by omega), cut_ge (by omega)]
theorem cut_succ_some {μ : Inj} {n : Nat} {x : Nat × Nat × Nat} (h : μ n = some x) : cut μ (n + 1) = addInj (cut μ n) n x := by
  funext b
  rcases Nat.lt_trichotomy b n with h1 | rfl | h1
  · rw [cut_lt (by omega), addInj_ne _ _ _ _ (by omega), cut_lt h1]
  · rw [cut_lt (by omega), addInj_same]; exact h
  · rw [cut_ge (by omega), addInj_ne _ _ _ _ (by omega), cut_ge (by omega)]

/-- from a place to the next heavy operation -/
theorem walk (tr : Trace P C ops ks env0 h0 m hs es vs) {μ : Inj} {w : World} {l : Nat} (hr : Rel (cut μ (hs l).next) (hs l) w) :
    ∀ {j : Nat}, l ≤ j → j ≤ m → (∀ i, l ≤ i → i < j → ¬ Hv P ops i) → (∀ i x fl, l ≤ i → i < j → FreshObj (hs i).next x fl → hs (i + 1) = newBlk (hs i) x fl → μ (hs i).next = none ∨ PendAt μ hs w i x fl) → Rel (cut μ (hs j).next) (hs j) w := by
  intro j
  induction j with
  | zero => intro h1 _ _ _; obtain rfl : l = 0 := by omega
            exact hr
  | succ j ih =>
    intro h1 h2 hl hp
    rcases Nat.lt_or_eq_of_le h1 with h | rfl
    · have ih' := ih (by omega) (by omega) (fun i a1 a2 => hl i a1 (by omega)) (fun i x fl a1 a2 => hp i x fl a1 (by omega))
      rcases tr.light (i := j) (by omega) (hl j (by omega) (by omega)) with e | ⟨x, fl, hf, e⟩
      · rw [e]; exact ih'
      · have hj := ih'.junk x fl
        rw [e]
        have hn : (newBlk (hs j) x fl).next = (hs j).next + 1 := rfl
        rcases hp j x fl (by omega) (by omega) hf e with hnone | ⟨C', S', ob, p1, p2, p3, p4⟩
        · rw [hn, cut_succ_none hnone]; exact hj
        · rw [hn, cut_succ_some p1]
          refine hj.link (fl := fl) (cut_ge (Nat.le_refl _)) (by simp [newBlk]) newBlk_objs_same (fun hfl => by subst hfl; exact newBlk_fams_same) p3 p2 fun b' d S'' hb' => ?_
          obtain ⟨q1, q2⟩ := cut_some hb'
          have := p4 b' d S'' q2; omega
    · exact hr

/-- the temporaries along the run -/
theorem Trace.env (hpl : PlanOK P ops ms ks) (tr : Trace P C ops ks env0 h0 m hs es vs) : ∀ {i : Nat}, i ≤ m → (es i).length = env0.length ∧ ∀ t, (∀ k o, k < i → ops[k]? = some o → o.dst = some t → t < env0.length → (es i)[t]? = some (vs k)) ∧
    ((∀ k o, k < i → ops[k]? = some o → o.dst ≠ some t) → (es i)[t]? = env0[t]?) := by
  intro i
  induction i with
  | zero => intro _; rw [tr.es0]; exact ⟨rfl, fun t => ⟨fun k o h => by omega, fun _ => rfl⟩⟩
  | succ i ih =>
    intro hi
    obtain ⟨l1, l2⟩ := ih (by omega)
    obtain ⟨oi, k, l, ho, _, _, he⟩ := tr.step i (by omega)
    rw [he]
    have hlen : (putA (es i) oi.dst (vs i)).length = (es i).length := by cases oi.dst <;> simp [putA]
    refine ⟨hlen.trans l1, fun t => ⟨fun k o hk hko hd ht => ?_, fun hno => ?_⟩⟩
    · rcases Nat.lt_or_eq_of_le (Nat.le_of_lt_succ hk) with hk' | rfl
      · have hne : oi.dst ≠ some t := fun e => by
          have := (hpl.pair k i o oi hk' hko ho).1
          rw [hd, e] at this
          simp [dstOK] at this
        have := (l2 t).1 k o hk' hko hd ht
        cases hdd : oi.dst with
        | none => exact this
        | some d =>
          simp only [putA]
          rw [List.getElem?_set_ne (fun e => hne (by rw [hdd, e]))]; exact this
      · rw [ho] at hko; cases hko
        rw [hd]
        simp only [putA]
        rw [List.getElem?_set_self (by rw [l1]; exact ht)]
    · have := (l2 t).2 fun k o hk hko => hno k o (by omega) hko
      have hne : oi.dst ≠ some t := hno i oi (by omega) ho
      cases hdd : oi.dst with
      | none => exact this
      | some d =>
        simp only [putA]
        rw [List.getElem?_set_ne (fun e => hne (by rw [hdd, e]))]; exact this
end
end Go.Am
/- Regions that draw their order: the invariant, and its steps. -/
namespace Go.Am

variable {P : Program}

section
variable {C : CallOp} {ops : Array Oper} {ms : List Nat} {ks : List (Nat × List Nat)} {env0 : List AV} {h0 : AHeap} {m : Nat} {hs : Nat → AHeap} {es : Nat → List AV} {vs : Nat → AV} {μ0 : Inj} {a0 : Act} {w0 : World}

structure Inv (P : Program) (ops : Array Oper) (ms : List Nat) (h0 : AHeap) (m : Nat) (hs : Nat → AHeap) (vs : Nat → AV) (μ0 : Inj) (a0 : Act) (w0 : World) (S : Nat → Prop) (a : Act) (w : World) (lo c : Nat) (μ : Inj) : Prop where
  lo_c : lo ≤ c
  c_m : c ≤ m
  done : ∀ q, q < c → Hv P ops q → S q
  undone : ∀ q, c ≤ q → Hv P ops q → ¬ S q
  c_hv : c < m → Hv P ops c
  seg : ∀ j, lo ≤ j → j < c → ¬ Hv P ops j
  lo_hv : lo = 0 ∨ ∃ q, lo = q + 1 ∧ Hv P ops q
  down : ∀ k, S k → ∀ j, (ms.getD k 0).testBit j = true → S j
  R1 : ∀ j, lo ≤ j → j ≤ c → Rel (cut μ (hs j).next) (hs j) w
  dom : ∀ b x, μ b = some x → b < (hs c).next ∨ ∃ i, c ≤ i ∧ i < m ∧ S i ∧ b = (hs i).next ∧ (hs i).next < (hs (i + 1)).next
  inC : ∀ b C' d S', μ b = some (C', d, S') → C' < w.heap.size
  pend : ∀ i x fl, c ≤ i → i < m → S i → FreshObj (hs i).next x fl → hs (i + 1) = newBlk (hs i) x fl → PendAt μ hs w i x fl
  late : ∀ i x fl, i < c → ¬ S i → ¬ Hv P ops i → FreshObj (hs i).next x fl → hs (i + 1) = newBlk (hs i) x fl →
    μ (hs i).next = none ∧ ∀ j, lo ≤ j → i < j → j ≤ c → (hs j).objs.get (hs i).next = some x ∧ (fl = true → (hs j).fams.get (hs i).next = some (0, 0))
  ext : Ext μ0 h0 w0 μ (hs c) w
  vals : ∀ i o d, i < m → S i → ops[i]? = some o → o.dst = some d → d < a.tmps.size → VRel (cut μ (hs (i + 1)).next) (vs i) (a.tmps.getD d undef)
  rest : ∀ t, (∀ i o, S i → ops[i]? = some o → o.dst ≠ some t) → a.tmps[t]? = a0.tmps[t]?
  size : a.tmps.size = a0.tmps.size
  defers : a.defers = a0.defers

def Add (S : Nat → Prop) (i : Nat) : Nat → Prop := fun k => S k ∨ k = i

/- the temporaries, one step on -/
theorem put_getD_ne {a : Act} {d d' : Tmp} {u : Value} (h : d ≠ d') : (a.put (some d) u).tmps.getD d' undef = a.tmps.getD d' undef := by
  simp [Act.put, Array.getD_eq_getD_getElem?, Array.getElem?_setIfInBounds_ne h]
theorem put_getD_same {a : Act} {d : Tmp} {u : Value} (h : d < a.tmps.size) : (a.put (some d) u).tmps.getD d undef = u := by
  simp [Act.put, Array.getD_eq_getD_getElem?, Array.getElem?_setIfInBounds_self_of_lt h]
theorem put_size {a : Act} {d : Option Tmp} {u : Value} : (a.put d u).tmps.size = a.tmps.size := by cases d <;> simp [Act.put]
theorem put_defers {a : Act} {d : Option Tmp} {u : Value} : (a.put d u).defers = a.defers := by cases d <;> simp [Act.put]
theorem put_get_ne {a : Act} {d : Option Tmp} {t : Nat} {u : Value} (h : d ≠ some t) : (a.put d u).tmps[t]? = a.tmps[t]? := by
  cases d with
  | none => rfl
  | some d => simp [Act.put, Array.getElem?_setIfInBounds_ne (fun e => h (congrArg some e))]

theorem dst_ne (hpl : PlanOK P ops ms ks) {i j : Nat} {oi oj : Oper} {d : Tmp} (hi : ops[i]? = some oi) (hj : ops[j]? = some oj) (hij : i ≠ j) (h1 : oi.dst = some d) : oj.dst ≠ some d := fun h2 => by
  rcases Nat.lt_or_gt_of_ne hij with h | h
  · have := (hpl.pair i j oi oj h hi hj).1
    rw [h1, h2] at this; simp [dstOK] at this
  · have := (hpl.pair j i oj oi h hj hi).1
    rw [h1, h2] at this; simp [dstOK] at this

/-- the values, where one more is laid -/
theorem Inv.vals_put {S : Nat → Prop} {a : Act} {w : World} {lo c : Nat} {μ : Inj} (I : Inv P ops ms h0 m hs vs μ0 a0 w0 S a w lo c μ) (hpl : PlanOK P ops ms ks) {i : Nat} {o : Oper} (ho : ops[i]? = some o) (hS : ¬ S i) {u : Value} {μ' : Inj} (hle : μ.le μ')
    (hu : i < m → VRel (cut μ' (hs (i + 1)).next) (vs i) u) :
    (∀ j o' d, j < m → Add S i j → ops[j]? = some o' → o'.dst = some d → d < (a.put o.dst u).tmps.size → VRel (cut μ' (hs (j + 1)).next) (vs j) ((a.put o.dst u).tmps.getD d undef)) ∧
    (∀ t, (∀ j o', Add S i j → ops[j]? = some o' → o'.dst ≠ some t) → (a.put o.dst u).tmps[t]? = a0.tmps[t]?) := by
  refine ⟨fun j o' d hj hSj hoj hd hlt => ?_, fun t ht => ?_⟩
  · rw [put_size] at hlt
    rcases hSj with hSj | rfl
    · have hne : j ≠ i := fun e => hS (e ▸ hSj)
      have hdn : o.dst ≠ some d := dst_ne hpl hoj ho hne hd
      have : (a.put o.dst u).tmps.getD d undef = a.tmps.getD d undef := by
        rw [Array.getD_eq_getD_getElem?, put_get_ne hdn, ← Array.getD_eq_getD_getElem?]
      rw [this]
      exact (I.vals j o' d hj hSj hoj hd hlt).mono (cut_le_cut hle _)
    · rw [ho] at hoj; cases hoj
      rw [hd, put_getD_same hlt]
      exact hu hj
  · rw [put_get_ne (ht i o (.inr rfl) ho)]
    exact I.rest t fun j o' h => ht j o' (.inl h)

/-- a light operation that leaves the abstract memory -/
theorem Inv.step_same {S : Nat → Prop} {a : Act} {w w' : World} {lo c : Nat} {μ : Inj} (I : Inv P ops ms h0 m hs vs μ0 a0 w0 S a w lo c μ) (hpl : PlanOK P ops ms ks) {i : Nat} {o : Oper} (ho : ops[i]? = some o) (hS : ¬ S i) (hl : ¬ Hv P ops i)
    (hd : ∀ j, (ms.getD i 0).testBit j = true → S j) (hh : i < m → hs (i + 1) = hs i) {u : Value} (hg : Grown w w') (hu : i < m → VRel (cut μ (hs (i + 1)).next) (vs i) u) :
    Inv P ops ms h0 m hs vs μ0 a0 w0 (Add S i) (a.put o.dst u) w' lo c μ := by
  obtain ⟨hx, hx2, hx3⟩ := hg
  obtain ⟨v1, v2⟩ := I.vals_put hpl ho hS (Inj.le_refl μ) hu
  have hsz : w.heap.size ≤ w'.heap.size := by obtain ⟨x, hx⟩ := hx; rw [hx]; simp
  have hlt : ∀ C', C' < w.heap.size → w'.heap[C']? = w.heap[C']? := fun C' h => by obtain ⟨x, hx⟩ := hx; rw [hx, Array.getElem?_append_left h]
  exact
    { lo_c := I.lo_c, c_m := I.c_m
      done := fun q h1 h2 => .inl (I.done q h1 h2)
      undone := fun q h1 h2 h3 => by
        rcases h3 with h3 | rfl
        · exact I.undone q h1 h2 h3
        · exact hl h2
      c_hv := I.c_hv, seg := I.seg, lo_hv := I.lo_hv
      down := fun k h j hj => by
        rcases h with h | rfl
        · exact .inl (I.down k h j hj)
        · exact .inl (hd j hj)
      R1 := fun j h1 h2 => (Grown.rel (I.R1 j h1 h2) ⟨hx, hx2, hx3⟩).1
      dom := fun b x hb => (I.dom b x hb).imp id fun ⟨j, h1, h2, h3, h4⟩ => ⟨j, h1, h2, .inl h3, h4⟩
      inC := fun b C' d S' hb => Nat.lt_of_lt_of_le (I.inC b C' d S' hb) hsz
      pend := fun j x fl h1 h2 h3 h4 h5 => by
        rcases h3 with h3 | rfl
        · obtain ⟨C', S', ob, p1, p2, p3⟩ := I.pend j x fl h1 h2 h3 h4 h5
          exact ⟨C', S', ob, p1, by rw [hlt C' (I.inC _ _ _ _ p1)]; exact p2, p3⟩
        · have := hh h2
          rw [h5] at this
          have := congrArg AHeap.next this
          simp [newBlk] at this
      late := fun j x fl h1 h2 h3 h4 h5 => I.late j x fl h1 (fun h => h2 (.inl h)) h3 h4 h5
      ext := I.ext.grow ⟨hx, hx2, hx3⟩
      vals := v1, rest := v2
      size := put_size.trans I.size
      defers := put_defers.trans I.defers }

/-- a new block -/
theorem Inv.step_new {S : Nat → Prop} {a : Act} {w w' : World} {lo c : Nat} {μ : Inj} (I : Inv P ops ms h0 m hs vs μ0 a0 w0 S a w lo c μ) (hpl : PlanOK P ops ms ks) (tr : Trace P C ops ks env0 h0 m hs es vs) (hd0 : ∀ b x, μ0 b = some x → b < h0.next)
    {i : Nat} {o : Oper} (ho : ops[i]? = some o) (hS : ¬ S i) (hl : ¬ Hv P ops i) (hi : i < m)
    (hd : ∀ j, (ms.getD i 0).testBit j = true → S j) {u : Value} {x : AObj} {fl : Bool} {ob : Obj} {Z : Nat} (hf : FreshObj (hs i).next x fl) (hh : hs (i + 1) = newBlk (hs i) x fl) (hw : w'.heap = w.heap.push ob) (hos : w'.os = w.os) (hout : w'.output = w.output)
    (hc : Cont (cut μ (hs i).next) (hs i).next x fl ob Z) (hu : ∀ μ', μ' (hs i).next = some (w.heap.size, 0, Z) → VRel μ' (vs i) u) :
    Inv P ops ms h0 m hs vs μ0 a0 w0 (Add S i) (a.put o.dst u) w' lo c (addInj μ (hs i).next (w.heap.size, 0, Z)) := by
  have hn1 : (hs (i + 1)).next = (hs i).next + 1 := by rw [hh]; rfl
  -- the name is free
  have hnone : μ (hs i).next = none := by
    rcases Nat.lt_or_ge i c with hic | hic
    · exact (I.late i x fl hic hS hl hf hh).1
    · cases hm : μ (hs i).next with
      | none => rfl
      | some y =>
        rcases I.dom _ _ hm with h1 | ⟨j, h1, h2, h3, h4, h5⟩
        · have := tr.mono hpl hic (by omega); omega
        · rcases Nat.lt_trichotomy i j with h | h | h
          · have := tr.mono hpl (show i + 1 ≤ j by omega) (by omega); omega
          · exact absurd (h ▸ h3) hS
          · have := tr.mono hpl (show j + 1 ≤ i by omega) (by omega); omega
  have hle := Inj.le_addInj hnone (w.heap.size, 0, Z)
  have hg : Grown w w' := Grown.push hw hos hout
  have hlt : ∀ C', C' < w.heap.size → w'.heap[C']? = w.heap[C']? := fun C' h => heap_push_lt hw h
  have hnew : w'.heap[w.heap.size]? = some ob := heap_push_new hw
  have hcut : ∀ n, n ≤ (hs i).next → cut (addInj μ (hs i).next (w.heap.size, 0, Z)) n = cut μ n := fun n hn => by
    funext b
    rcases Nat.lt_or_ge b n with h | h
    · rw [cut_lt h, cut_lt h, addInj_ne _ _ _ _ (by omega)]
    · rw [cut_ge h, cut_ge h]
  have hcut2 : ∀ n, (hs i).next < n → cut (addInj μ (hs i).next (w.heap.size, 0, Z)) n = addInj (cut μ n) (hs i).next (w.heap.size, 0, Z) := fun n hn => by
    funext b
    by_cases hb : b = (hs i).next
    · subst hb; rw [cut_lt hn, addInj_same, addInj_same]
    · rw [addInj_ne _ _ _ _ hb]
      rcases Nat.lt_or_ge b n with h | h
      · rw [cut_lt h, cut_lt h, addInj_ne _ _ _ _ hb]
      · rw [cut_ge h, cut_ge h]
  obtain ⟨v1, v2⟩ := I.vals_put hpl ho hS (μ' := addInj μ (hs i).next (w.heap.size, 0, Z)) (u := u) hle (fun _ => hu _ (by rw [cut_lt (by omega), addInj_same]))
  exact
    { lo_c := I.lo_c, c_m := I.c_m
      done := fun q h1 h2 => .inl (I.done q h1 h2)
      undone := fun q h1 h2 h3 => by
        rcases h3 with h3 | rfl
        · exact I.undone q h1 h2 h3
        · exact hl h2
      c_hv := I.c_hv, seg := I.seg, lo_hv := I.lo_hv
      down := fun k h j hj => by
        rcases h with h | rfl
        · exact .inl (I.down k h j hj)
        · exact .inl (hd j hj)
      R1 := fun j h1 h2 => by
        have hr := (Grown.rel (I.R1 j h1 h2) hg).1
        rcases Nat.lt_or_ge i j with hij | hij
        · have hmono := tr.mono hpl (show i + 1 ≤ j by omega) (by have := I.c_m; omega)
          rw [hcut2 _ (by omega)]
          obtain ⟨_, hl2⟩ := I.late i x fl (by omega) hS hl hf hh
          obtain ⟨k1, k2⟩ := hl2 j h1 hij h2
          refine hr.link (fl := fl) (by rw [cut_lt (by omega)]; exact hnone) (by omega) k1 k2 (hc.mono (cut_mono (by omega))) hnew fun b' d S' hb' => ?_
          have := I.inC b' _ d S' (cut_some hb').2; omega
        · rw [hcut _ (tr.mono hpl hij (by omega))]; exact hr
      dom := fun b y hb => by
        by_cases hbb : b = (hs i).next
        · subst hbb
          rcases Nat.lt_or_ge i c with hic | hic
          · left; have := tr.mono hpl (show i + 1 ≤ c by omega) I.c_m; omega
          · exact .inr ⟨i, hic, hi, .inr rfl, rfl, by omega⟩
        · rw [addInj_ne _ _ _ _ hbb] at hb
          exact (I.dom b y hb).imp id fun ⟨j, h1, h2, h3, h4⟩ => ⟨j, h1, h2, .inl h3, h4⟩
      inC := fun b C' d S' hb => by
        have hs1 : w'.heap.size = w.heap.size + 1 := by rw [hw]; simp
        by_cases hbb : b = (hs i).next
        · subst hbb; rw [addInj_same] at hb; cases hb; omega
        · rw [addInj_ne _ _ _ _ hbb] at hb
          have := I.inC b C' d S' hb; omega
      pend := fun j y gl h1 h2 h3 h4 h5 => by
        rcases h3 with h3 | rfl
        · obtain ⟨C', S', ob', p1, p2, p3, p4⟩ := I.pend j y gl h1 h2 h3 h4 h5
          have hC := I.inC _ _ _ _ p1
          refine ⟨C', S', ob', hle _ _ p1, by rw [hlt C' hC]; exact p2, p3.mono (cut_le_cut hle _), fun b d S'' hb => ?_⟩
          by_cases hbb : b = (hs i).next
          · subst hbb; rw [addInj_same] at hb; cases hb; omega
          · rw [addInj_ne _ _ _ _ hbb] at hb; exact p4 b d S'' hb
        · obtain ⟨e1, e2⟩ := FreshObj.eq hf h4 (hh.symm.trans h5)
          subst e1; subst e2
          refine ⟨w.heap.size, Z, ob, addInj_same _ _ _, hnew, ?_, fun b d S'' hb => ?_⟩
          · rw [hcut _ (Nat.le_refl _)]; exact hc
          · by_cases hbb : b = (hs j).next
            · exact hbb
            · rw [addInj_ne _ _ _ _ hbb] at hb
              have := I.inC _ _ _ _ hb; omega
      late := fun j y gl h1 h2 h3 h4 h5 => by
        obtain ⟨q1, q2⟩ := I.late j y gl h1 (fun h => h2 (.inl h)) h3 h4 h5
        refine ⟨?_, q2⟩
        have hji : j ≠ i := fun e => h2 (.inr e)
        have hn2 : (hs (j + 1)).next = (hs j).next + 1 := by rw [h5]; rfl
        have hcm := I.c_m
        rw [addInj_ne _ _ _ _ (fun e => ?_)]
        · exact q1
        · rcases Nat.lt_or_gt_of_ne hji with h | h
          · have := tr.mono hpl (show j + 1 ≤ i by omega) (by omega); omega
          · have := tr.mono hpl (show i + 1 ≤ j by omega) (by omega); omega
      ext := by
        have hcm := I.c_m
        refine (I.ext.grow hg).change hle (fun b C' d S' hb => ?_) hd0 (Nat.le_refl _) (fun _ _ => rfl) (fun _ _ => rfl)
        by_cases hbb : b = (hs i).next
        · subst hbb; rw [addInj_same] at hb; cases hb
          have h00 : h0.next ≤ (hs i).next := by have := tr.mono hpl (Nat.zero_le i) (by omega); rw [tr.hs0] at this; exact this
          exact .inr ⟨h00, .inl I.ext.size⟩
        · rw [addInj_ne _ _ _ _ hbb] at hb; exact .inl hb
      vals := v1, rest := v2
      size := put_size.trans I.size
      defers := put_defers.trans I.defers }

/-- what an operation looks at, when its turn has come -/
theorem Inv.looks {S : Nat → Prop} {a : Act} {w : World} {lo c : Nat} {μ : Inj} (I : Inv P ops ms h0 m hs vs μ0 a0 w0 S a w lo c μ) (hpl : PlanOK P ops ms ks) (tr : Trace P C ops ks env0 h0 m hs es vs) (hd0 : ∀ b x, μ0 b = some x → b < h0.next)
    (he0 : EnvRel μ0 env0 a0) {i : Nat} {o : Oper} (ho : ops[i]? = some o) (hS : ¬ S i) (hi : i ≤ m) (hd : ∀ j, (ms.getD i 0).testBit j = true → S j) : LooksRel (cut μ (hs i).next) ops (es i) a o := by
  intro t ht
  obtain ⟨l1, l2⟩ := tr.env hpl hi
  obtain ⟨k1, k2⟩ := l2 t
  have hlen : env0.length = a0.tmps.size := by have := VRels.length he0; rw [Array.length_toList] at this; exact this
  have hsz := I.size
  rcases Nat.lt_or_ge t env0.length with htl | htl
  · have htl' : t < a.tmps.size := by rw [hsz, ← hlen]; exact htl
    by_cases hw : ∃ k o', k < i ∧ ops[k]? = some o' ∧ o'.dst = some t
    · obtain ⟨k, o', hk, hko, hkd⟩ := hw
      -- its writer stands ahead of it
      have hSk : S k := by
        rcases (hpl.pair k i o' o hk hko ho).2 with h | ⟨h, _⟩
        · exact hd k h
        · exact absurd ht ((Oper.apart_spec h).1 t hkd)
      have hv := I.vals k o' t (by omega) hSk hko hkd htl'
      have hg : (es i).getD t undefA = vs k := by rw [List.getD_eq_getElem?_getD, k1 k o' hk hko hkd htl]; rfl
      rw [hg]
      exact hv.mono (cut_mono (tr.mono hpl (by omega) hi))
    · have hg : (es i)[t]? = env0[t]? := k2 fun k o' hk hko hkd => hw ⟨k, o', hk, hko, hkd⟩
      have hr := I.rest t fun k o' hSk hko hkd => by
        rcases Nat.lt_trichotomy k i with h | h | h
        · exact hw ⟨k, o', h, hko, hkd⟩
        · exact hS (h ▸ hSk)
        · rcases (hpl.pair i k o o' h ho hko).2 with h' | ⟨h', _⟩
          · exact hS (I.down k hSk i h')
          · exact (Oper.apart_spec h').2.2 t hkd ht
      have := he0.getD t
      rw [List.getD_eq_getElem?_getD, hg, ← List.getD_eq_getElem?_getD, Array.getD_eq_getD_getElem?, hr, ← Array.getD_eq_getD_getElem?]
      refine this.mono fun b x hb => ?_
      have h1 := hd0 b x hb
      have h2 := tr.mono hpl (Nat.zero_le i) hi
      rw [tr.hs0] at h2
      rw [cut_lt (by omega)]
      exact I.ext.sub b x hb
  · have e1 : (es i).getD t undefA = undefA := by rw [List.getD_eq_getElem?_getD, List.getElem?_eq_none (by omega)]; rfl
    have e2 : a.tmps.getD t undef = undef := by rw [Array.getD_eq_getD_getElem?, Array.getElem?_eq_none (by omega)]; rfl
    rw [e1, e2]; exact undef_rel _
end
end Go.Am
/- Regions that draw their order: a light operation's turn; a heavy operation's turn. -/
namespace Go.Am

variable {P : Program}

section
variable {C : CallOp} {ops : Array Oper} {ms : List Nat} {ks : List (Nat × List Nat)} {env0 : List AV} {h0 : AHeap} {m : Nat} {hs : Nat → AHeap} {es : Nat → List AV} {vs : Nat → AV} {μ0 : Inj} {a0 : Act} {w0 : World} {G : Nat}

theorem Cont.fresh {μ : Inj} {b : Nat} {o : AObj} {fl : Bool} {x : Obj} {S : Nat} (h : Cont μ b o fl x S) : FreshObj b o fl := by
  cases h with
  | solo => exact .inl ⟨rfl, .inl ⟨_, rfl⟩⟩
  | row => exact .inr ⟨rfl, _, rfl⟩
  | map => exact .inl ⟨rfl, .inr ⟨_, rfl⟩⟩
theorem newBlk_ne {h : AHeap} {o : AObj} {fl : Bool} : newBlk h o fl ≠ h := fun e => by
  have := congrArg AHeap.next e
  simp [newBlk] at this

theorem same_spec {r : Rd} {h : AHeap} (e : same P ops r h = true) : ∃ h', opA P (fun _ _ => .bad) ops r.env r.o h = .ok r.v h' := by
  unfold same at e
  split at e
  · rename_i v h' he
    exact ⟨h', by rw [he, AV.beq_eq _ _ e]⟩
  · cases e

theorem Inv.light_step {S : Nat → Prop} {a : Act} {w : World} {lo c : Nat} {μ : Inj} (I : Inv P ops ms h0 m hs vs μ0 a0 w0 S a w lo c μ) (hpl : PlanOK P ops ms ks) (tr : Trace P C ops ks env0 h0 m hs es vs) (hd0 : ∀ b x, μ0 b = some x → b < h0.next)
    (he0 : EnvRel μ0 env0 a0) (hg0 : GlobOK G μ0) (hok : ∀ o ∈ ops.toList, operOK G o = true) {i : Nat} {o : Oper} (ho : ops[i]? = some o) (hS : ¬ S i) (hl : ¬ Hv P ops i) (hi : i < m) (hd : ∀ j, (ms.getD i 0).testBit j = true → S j) :
    ∃ u w' μ', Steps1 P ops o a w u w' ∧ Inv P ops ms h0 m hs vs μ0 a0 w0 (Add S i) (a.put o.dst u) w' lo c μ' := by
  obtain ⟨o', k, l, ho', hk, e, _⟩ := tr.step i hi
  rw [ho] at ho'; cases ho'
  have hc3 : cls P o.op ≠ 3 := fun h => hl ⟨o, ho, h⟩
  have hoK := hok o (by simpa using Array.mem_of_getElem? ho)
  have L := I.looks hpl tr hd0 he0 ho hS (by omega) hd
  have h0n : ∀ j, j ≤ m → h0.next ≤ (hs j).next := fun j hj => by have := tr.mono hpl (Nat.zero_le j) hj; rw [tr.hs0] at this; exact this
  have gl : ∀ n, h0.next ≤ n → GlobOK G (cut μ n) := fun n hn g hgG => by
    obtain ⟨Z, hz⟩ := hg0 g hgG
    have := hd0 g _ hz
    exact ⟨Z, by rw [cut_lt (by omega)]; exact I.ext.sub _ _ hz⟩
  have hcm := I.c_m
  have hn1 := tr.mono1 hpl hi
  by_cases hc1 : cls P o.op = 1
  · -- a read
    have hh : hs (i + 1) = hs i := (opA_light hc3 (cls_le _) e).1 (by omega)
    have fin : ∀ u w', Steps1 P ops o a w u w' → Grown w w' → VRel (cut μ (hs (i + 1)).next) (vs i) u → ∃ u w' μ', Steps1 P ops o a w u w' ∧ Inv P ops ms h0 m hs vs μ0 a0 w0 (Add S i) (a.put o.dst u) w' lo c μ' := fun u w' s1 s2 s3 =>
      ⟨u, w', μ, s1, I.step_same hpl ho hS hl hd (fun _ => hh) s2 (fun _ => s3)⟩
    rcases Nat.lt_or_ge i lo with hlo | hlo
    · -- late
      obtain ⟨q, rfl, hq⟩ : ∃ q, lo = q + 1 ∧ Hv P ops q := I.lo_hv.resolve_left (by omega)
      have hlc := I.lo_c
      have hiq : i < q := by
        rcases Nat.lt_or_eq_of_le (Nat.le_of_lt_succ hlo) with h | h
        · exact h
        · exact absurd (h ▸ hq) hl
      obtain ⟨oq, hoq, hcq⟩ := hq
      obtain ⟨kq, lq, hkq, hkkq, _⟩ := hpl.at_ q oq hoq
      rw [hcq] at hkkq
      have hSq := I.done q (by omega) ⟨oq, hoq, hcq⟩
      have hmem : i ∈ lq := by
        rcases (hpl.pair i q o oq hiq ho hoq).2 with h | ⟨_, h, _⟩
        · exact absurd (I.down q hSq i h) hS
        · have := h lq kq hkq
          rw [hc1, hcq] at this
          simp only [checkedOK, List.any_eq_true] at this
          obtain ⟨y, y1, y2⟩ := this
          rw [Nat.eq_of_beq_eq_true y2]; exact y1
      obtain ⟨_, hon⟩ := tr.on q (by omega) kq lq hkq (Nat.le_of_ble_eq_true hkkq)
      obtain ⟨_, o2, ho2, hu, hsame⟩ := hon i hmem
      rw [ho] at ho2; cases ho2
      obtain ⟨h', es'⟩ := same_spec hsame
      have hle : (hs i).next ≤ (hs (q + 1)).next := tr.mono hpl (by omega) (by omega)
      rcases light_run (P := P) (w := w) (a := a) (gl _ (h0n (q + 1) (by omega))) (L.mono (cut_mono hle)) hoK hc3 (cls_le _) (fun _ => I.R1 (q + 1) (Nat.le_refl _) hlc) es' with ⟨u, w', s1, s2, s3, _⟩ | ⟨_, _, _, x, fl, _, _, _, _, s4, _⟩
      · refine fin u w' s1 s3 ((VRel.cut _ _ s2 hu).mono fun b x hb => ?_)
        obtain ⟨b1, b2⟩ := cut_some hb
        obtain ⟨b3, b4⟩ := cut_some b2
        rw [cut_lt (by omega)]; exact b4
      · have := (opA_light hc3 (cls_le _) es').1 (by omega)
        rw [this] at s4
        exact absurd s4.symm newBlk_ne
    · rcases Nat.lt_or_ge c i with hci | hci
      · -- early
        have hcv := I.c_hv (by omega)
        have hSc := I.undone c (Nat.le_refl _) hcv
        obtain ⟨oc, hoc, hcc⟩ := hcv
        obtain ⟨kc, lc, hkc, hkkc, _⟩ := hpl.at_ c oc hoc
        obtain ⟨ki, li, hki, hkki, _⟩ := hpl.at_ i o ho
        rw [hc1] at hkki
        have hk1 := Nat.eq_of_beq_eq_true hkki
        subst hk1
        have hmem : c ∈ li := by
          rcases (hpl.pair c i oc o hci hoc ho).2 with h | ⟨_, h, _⟩
          · exact absurd (hd c h) hSc
          · have := h li 1 hki
            rw [hc1, hcc] at this
            simp only [checkedOK, List.any_eq_true] at this
            obtain ⟨y, y1, y2⟩ := this
            rw [Nat.eq_of_beq_eq_true y2]; exact y1
        obtain ⟨_, hlb, hsame⟩ := tr.back i hi o li ho hki c hmem
        obtain ⟨h', es'⟩ := same_spec hsame
        have L' : LooksRel (cut μ (hs c).next) ops (es i) a o := fun t ht => (VRel.cut _ _ (L t ht) (looksBelow_spec hlb t ht)).mono fun b x hb => by
          obtain ⟨b1, b2⟩ := cut_some hb
          rw [cut_lt b1]; exact (cut_some b2).2
        rcases light_run (P := P) (w := w) (a := a) (gl _ (h0n c hcm)) L' hoK hc3 (cls_le _) (fun _ => I.R1 c I.lo_c (Nat.le_refl _)) es' with ⟨u, w', s1, s2, s3, _⟩ | ⟨_, _, _, x, fl, _, _, _, _, s4, _⟩
        · exact fin u w' s1 s3 (s2.mono (cut_mono (tr.mono hpl (by omega) (by omega))))
        · have := (opA_light hc3 (cls_le _) es').1 (by omega)
          rw [this] at s4
          exact absurd s4.symm newBlk_ne
      · rcases light_run (P := P) (w := w) (a := a) (gl _ (h0n i (by omega))) L hoK hc3 (cls_le _) (fun _ => I.R1 i hlo hci) e with ⟨u, w', s1, s2, s3, _⟩ | ⟨_, _, _, x, fl, _, _, _, _, s4, _⟩
        · exact fin u w' s1 s3 (s2.mono (cut_mono hn1))
        · rw [hh] at s4
          exact absurd s4.symm newBlk_ne
  · rcases light_run (P := P) (w := w) (a := a) (gl _ (h0n i (by omega))) L hoK hc3 (cls_le _) (fun h => absurd h hc1) e with ⟨u, w', s1, s2, s3, s4⟩ | ⟨av, u, w', x, fl, ob, Z, s1, s2, s3, s4, s5, s6, s7, s8⟩
    · exact ⟨u, w', μ, s1, I.step_same hpl ho hS hl hd (fun _ => s4) s3 (fun _ => s2.mono (cut_mono hn1))⟩
    · exact ⟨u, w', _, s1, I.step_new hpl tr hd0 ho hS hl hi hd s7.fresh s3 s4 s5 s6 s7 (fun μ' hμ => by rw [s2]; exact s8 μ' _ hμ)⟩

/-- behind a heavy operation -/
theorem Inv.heavy_next {S : Nat → Prop} {a : Act} {w w' : World} {lo c : Nat} {μ μ1 : Inj} (I : Inv P ops ms h0 m hs vs μ0 a0 w0 S a w lo c μ) (hpl : PlanOK P ops ms ks) (tr : Trace P C ops ks env0 h0 m hs es vs) (hd0 : ∀ b x, μ0 b = some x → b < h0.next)
    {o : Oper} (ho : ops[c]? = some o) (hcm : c < m) (hd : ∀ j, (ms.getD c 0).testBit j = true → S j) {u : Value}
    (hr : Rel μ1 (hs (c + 1)) w') (e : Ext (cut μ (hs c).next) (hs c) w μ1 (hs (c + 1)) w') (hu : VRel μ1 (vs c) u) : ∃ c' μ', Inv P ops ms h0 m hs vs μ0 a0 w0 (Add S c) (a.put o.dst u) w' (c + 1) c' μ' := by
  have hcv := I.c_hv hcm
  have hSc := I.undone c (Nat.le_refl _) hcv
  obtain ⟨c', c1, c2, c3, c4⟩ := next_heavy (P := P) ops m (m - (c + 1)) (c + 1) rfl (by omega)
  have nn := tr.mono1 hpl hcm
  have n0 : ∀ j, j ≤ m → h0.next ≤ (hs j).next := fun j hj => by have := tr.mono hpl (Nat.zero_le j) hj; rw [tr.hs0] at this; exact this
  have dom1 : ∀ b x, μ1 b = some x → b < (hs (c + 1)).next := fun b x h => by obtain ⟨C', d, S'⟩ := x; exact (hr.obj b C' d S' h).1
  let μ' : Inj := fun b => if b < (hs (c + 1)).next then μ1 b else μ b
  have mlt : ∀ b, b < (hs (c + 1)).next → μ' b = μ1 b := fun b h => by simp [μ', h]
  have mge : ∀ b, (hs (c + 1)).next ≤ b → μ' b = μ b := fun b h => by simp [μ', Nat.not_lt.2 h]
  have cut1 : cut μ' (hs (c + 1)).next = μ1 := by
    funext b
    rcases Nat.lt_or_ge b (hs (c + 1)).next with h | h
    · rw [cut_lt h, mlt b h]
    · rw [cut_ge h]
      cases hm : μ1 b with
      | none => rfl
      | some x => have := dom1 b x hm; omega
  -- the blocks that wait
  have far : ∀ b x, μ b = some x → (hs c).next ≤ b → ∃ i, c < i ∧ i < m ∧ S i ∧ b = (hs i).next ∧ (hs i).next < (hs (i + 1)).next := fun b x hb hge => by
    rcases I.dom b x hb with h | ⟨i, h1, h2, h3, h4⟩
    · omega
    · rcases Nat.lt_or_eq_of_le h1 with h | rfl
      · exact ⟨i, h, h2, h3, h4⟩
      · exact absurd h3 hSc
  have farlt : ∀ b x, μ b = some x → (hs c).next ≤ b → (hs (c + 1)).next ≤ b := fun b x hb hge => by
    obtain ⟨i, h1, h2, h3, h4, _⟩ := far b x hb hge
    have := tr.mono hpl (show c + 1 ≤ i by omega) (by omega); omega
  have hle : μ.le μ' := fun b x hb => by
    rcases Nat.lt_or_ge b (hs c).next with h | h
    · rw [mlt b (by omega)]; exact e.sub b x (by rw [cut_lt h]; exact hb)
    · rw [mge b (farlt b x hb h)]; exact hb
  have hle1 : μ1.le μ' := fun b x hb => by rw [mlt b (dom1 b x hb)]; exact hb
  have lightS : ∀ i, c < i → S i → ¬ Hv P ops i := fun i h1 h2 h3 => I.undone i (by omega) h3 h2
  have pend : ∀ i x fl, c < i → i < m → S i → FreshObj (hs i).next x fl → hs (i + 1) = newBlk (hs i) x fl → PendAt μ' hs w' i x fl := fun i x fl h1 h2 h3 h4 h5 => by
    obtain ⟨C', S', ob, p1, p2, p3, p4⟩ := I.pend i x fl (by omega) h2 h3 h4 h5
    have hC := I.inC _ _ _ _ p1
    have hni := tr.mono hpl (show c + 1 ≤ i by omega) (by omega)
    have hno : ∀ b d S'', cut μ (hs c).next b = some (C', d, S'') → False := fun b d S'' hb => by
      obtain ⟨b1, b2⟩ := cut_some hb
      have := p4 b d S'' b2; omega
    refine ⟨C', S', ob, hle _ _ p1, ?_, p3.mono (cut_le_cut hle _), fun b d S'' hb => ?_⟩
    · rw [e.frC C' hC (fun b d S'' hb => (hno b d S'' hb).elim)]; exact p2
    · rcases Nat.lt_or_ge b (hs (c + 1)).next with h | h
      · rw [mlt b h] at hb
        cases hm : cut μ (hs c).next b with
        | some y =>
          have := e.sub b y hm
          rw [this] at hb; cases hb
          exact (hno b d S'' hm).elim
        | none =>
          rcases e.newC b C' d S'' hb hm with h' | ⟨b0, d0, S0, h'⟩
          · omega
          · exact (hno b0 d0 S0 h').elim
      · rw [mge b h] at hb; exact p4 b d S'' hb
  have free : ∀ i, c < i → i < m → ¬ S i → (hs i).next < (hs (i + 1)).next → μ' (hs i).next = none := fun i h1 h2 h3 h4 => by
    have hni := tr.mono hpl (show c + 1 ≤ i by omega) (by omega)
    rw [mge _ hni]
    cases hm : μ (hs i).next with
    | none => rfl
    | some y =>
      obtain ⟨j, j1, j2, j3, j4, j5⟩ := far _ _ hm (by omega)
      rcases Nat.lt_trichotomy i j with h | h | h
      · have := tr.mono hpl (show i + 1 ≤ j by omega) (by omega); omega
      · exact absurd (h ▸ j3) h3
      · have := tr.mono hpl (show j + 1 ≤ i by omega) (by omega); omega
  have grow : ∀ {i x fl}, hs (i + 1) = newBlk (hs i) x fl → (hs i).next < (hs (i + 1)).next := fun h => by rw [h]; simp [newBlk]
  obtain ⟨v1, v2⟩ := I.vals_put hpl ho hSc (μ' := μ') (u := u) hle (fun _ => by rw [cut1]; exact hu)
  refine ⟨c', μ',
    { lo_c := c1, c_m := c2
      done := fun q h1 h2 => by
        rcases Nat.lt_trichotomy q c with h | h | h
        · exact .inl (I.done q h h2)
        · exact .inr h
        · exact absurd h2 (c4 q (by omega) h1)
      undone := fun q h1 h2 h3 => by
        rcases h3 with h3 | rfl
        · exact I.undone q (by omega) h2 h3
        · omega
      c_hv := c3
      seg := c4
      lo_hv := .inr ⟨c, rfl, hcv⟩
      down := fun k h j hj => by
        rcases h with h | rfl
        · exact .inl (I.down k h j hj)
        · exact .inl (hd j hj)
      R1 := fun j h1 h2 => by
        refine walk tr (μ := μ') (l := c + 1) (by rw [cut1]; exact hr) h1 (by omega) (fun i a1 a2 => c4 i a1 (by omega)) fun i x fl a1 a2 hf hn => ?_
        by_cases hSi : S i
        · exact .inr (pend i x fl (by omega) (by omega) hSi hf hn)
        · exact .inl (free i (by omega) (by omega) hSi (grow hn))
      dom := fun b x hb => by
        rcases Nat.lt_or_ge b (hs (c + 1)).next with h | h
        · left; have := tr.mono hpl c1 c2; omega
        · rw [mge b h] at hb
          obtain ⟨i, i1, i2, i3, i4, i5⟩ := far b x hb (by omega)
          rcases Nat.lt_or_ge i c' with hic | hic
          · left; have := tr.mono hpl (show i + 1 ≤ c' by omega) c2; omega
          · exact .inr ⟨i, hic, i2, .inl i3, i4, i5⟩
      inC := fun b C' d S' hb => by
        rcases Nat.lt_or_ge b (hs (c + 1)).next with h | h
        · rw [mlt b h] at hb; exact (hr.obj b C' d S' hb).2.1
        · rw [mge b h] at hb; exact Nat.lt_of_lt_of_le (I.inC b C' d S' hb) e.size
      pend := fun i x fl h1 h2 h3 h4 h5 => by
        rcases h3 with h3 | rfl
        · exact pend i x fl (by omega) h2 h3 h4 h5
        · omega
      late := fun i x fl h1 h2 h3 h4 h5 => by
        have hSi : ¬ S i := fun h => h2 (.inl h)
        have hic : i ≠ c := fun h => h2 (.inr h)
        rcases Nat.lt_or_gt_of_ne hic with h | h
        · obtain ⟨q1, q2⟩ := I.late i x fl h hSi h3 h4 h5
          obtain ⟨q3, q4⟩ := q2 c I.lo_c h (Nat.le_refl _)
          have g := grow h5
          have hm := tr.mono hpl (show i + 1 ≤ c by omega) (by omega)
          have hcn : cut μ (hs c).next (hs i).next = none := by rw [cut_lt (by omega)]; exact q1
          obtain ⟨f1, f2⟩ := e.frA (hs i).next (by omega) hcn
          refine ⟨?_, fun j j1 j2 j3 => ?_⟩
          · rw [mlt _ (by omega)]
            cases hm1 : μ1 (hs i).next with
            | none => rfl
            | some y =>
              rcases e.newA _ _ hm1 with h' | h'
              · rw [hcn] at h'; cases h'
              · omega
          · obtain ⟨s1, s2, _⟩ := tr.seg (l := c + 1) (j := j) j1 (by omega) (fun i a1 a2 => c4 i a1 (by omega)) (hs i).next (by omega)
            exact ⟨by rw [s1, f1]; exact q3, fun hfl => by rw [s2, f2]; exact q4 hfl⟩
        · have g := grow h5
          refine ⟨free i h (by omega) hSi g, fun j j1 j2 j3 => ?_⟩
          obtain ⟨s1, s2, _⟩ := tr.seg (l := i + 1) (j := j) j2 (by omega) (fun i' a1 a2 => c4 i' (by omega) (by omega)) (hs i).next (by omega)
          rw [s1, s2, h5]
          exact ⟨newBlk_objs_same, fun hfl => by subst hfl; exact newBlk_fams_same⟩
      ext := by
        have e1 := (I.ext.cut (n := (hs c).next) (fun b x hb => by have := hd0 b x hb; have := n0 c (by omega); omega)).trans (I.R1 c I.lo_c (Nat.le_refl _)) e
        have hn' := tr.mono hpl c1 c2
        have hseg : ∀ b, b < h0.next → (hs c').objs.get b = (hs (c + 1)).objs.get b ∧ (hs c').fams.get b = (hs (c + 1)).fams.get b := fun b hb => by
          have := n0 (c + 1) (by omega)
          obtain ⟨s1, s2, _⟩ := tr.seg (l := c + 1) (j := c') c1 c2 (fun i a1 a2 => c4 i a1 a2) b (by omega)
          exact ⟨s1, s2⟩
        refine e1.change hle1 (fun b C' d S' hb => ?_) hd0 hn' (fun b hb => (hseg b hb).1) (fun b hb => (hseg b hb).2)
        rcases Nat.lt_or_ge b (hs (c + 1)).next with h | h
        · rw [mlt b h] at hb; exact .inl hb
        · rw [mge b h] at hb
          have h00 := n0 (c + 1) (by omega)
          refine .inr ⟨by omega, I.ext.newC b C' d S' hb ?_⟩
          cases hm : μ0 b with
          | none => rfl
          | some y => have := hd0 b y hm; omega
      vals := v1, rest := v2
      size := put_size.trans I.size
      defers := put_defers.trans I.defers }⟩
end
end Go.Am
/- Regions that draw their order: every order. -/
namespace Go.Am

variable {P : Program}

section
variable {C : CallOp} {ops : Array Oper} {ms : List Nat} {ks : List (Nat × List Nat)} {env0 : List AV} {h0 : AHeap} {m : Nat} {hs : Nat → AHeap} {es : Nat → List AV} {vs : Nat → AV} {μ0 : Inj} {a0 : Act} {w0 : World} {G : Nat}

/-- what is done -/
def Sl (listed : Array Bool) : Nat → Prop := fun i => listed[i]? = some true
theorem Sl.set {listed : Array Bool} {i : Nat} (hi : i < listed.size) : Sl (listed.setIfInBounds i true) = Add (Sl listed) i := by
  funext k
  unfold Sl Add
  apply propext
  rw [Array.getElem?_setIfInBounds]
  by_cases h : i = k
  · subst h; simp [hi]
  · simp [h, Ne.symm h]
theorem Sl.getD {listed : Array Bool} {i : Nat} : listed.getD i false = true ↔ Sl listed i := by
  unfold Sl
  rw [Array.getD_eq_getD_getElem?]
  rcases listed[i]? with _ | b
  · simp
  · simp

theorem ready_spec {listed : Array Bool} {i : Nat} (h : i ∈ Region.ready .any ops listed) (hsz : listed.size = ops.size) : ∃ o, ops[i]? = some o ∧ ¬ Sl listed i ∧ i < listed.size ∧ ∀ e ∈ o.after.toList, Region.binds .any e = true → Sl listed e.on := by
  unfold Region.ready at h
  rw [List.mem_filter] at h
  obtain ⟨h1, h2⟩ := h
  rw [Bool.and_eq_true] at h2
  have hi : i < ops.size := by simpa using h1
  refine ⟨ops[i], by simp [hi], fun hs => ?_, by omega, fun e he hb => ?_⟩
  · have h3 := h2.1
    unfold Sl at hs
    simp [Array.getD_eq_getD_getElem?, hs] at h3
  · have h3 := h2.2
    simp only [Array.getElem?_eq_getElem hi, Option.map_some, Option.getD_some] at h3
    rw [Array.all_eq_true'] at h3
    have := h3 e (by simpa using he)
    rw [hb] at this
    exact Sl.getD.1 (by simpa using this)

theorem mem_ready {listed : Array Bool} {i : Nat} {o : Oper} (ho : ops[i]? = some o) (hsz : listed.size = ops.size) (hn : ¬ Sl listed i) (h : ∀ e ∈ o.after.toList, Region.binds .any e = true → Sl listed e.on) : i ∈ Region.ready .any ops listed := by
  unfold Region.ready
  rw [List.mem_filter]
  have hi : i < ops.size := (Array.getElem?_eq_some_iff.1 ho).1
  refine ⟨by simpa using hi, ?_⟩
  rw [Bool.and_eq_true]
  constructor
  · have : listed[i]? = some false := by
      rcases hq : listed[i]? with _ | b
      · rw [Array.getElem?_eq_none_iff] at hq; omega
      · cases b with
        | false => rfl
        | true => exact absurd hq hn
    simp [Array.getD_eq_getD_getElem?, this]
  · rw [ho]
    simp only [Option.map_some, Option.getD_some]
    rw [Array.all_eq_true']
    intro e he
    cases hb : Region.binds .any e with
    | false => rfl
    | true => simpa using Sl.getD.2 (h e (by simpa using he) hb)

/-- where nothing is ready, all is done -/
theorem all_done (hpl : PlanOK P ops ms ks) {listed : Array Bool} (hsz : listed.size = ops.size) (h : Region.ready .any ops listed = []) : ∀ n i, i < n → i < ops.size → Sl listed i
  | 0, i, h1, _ => by omega
  | n + 1, i, h1, h2 => by
    apply Classical.byContradiction
    intro hn
    have ho : ops[i]? = some ops[i] := by simp [h2]
    obtain ⟨_, _, _, _, hb, _⟩ := hpl.at_ i _ ho
    have := mem_ready ho hsz hn fun e he hbe => all_done hpl hsz h n e.on (by have := hb e he hbe; omega) (by have := hb e he hbe; omega)
    rw [h] at this; cases this

theorem countP_lt {α : Type} {p q : α → Bool} : ∀ {l : List α}, (∀ x, q x = true → p x = true) → ∀ x0, x0 ∈ l → p x0 = true → q x0 = false → l.countP q + 1 ≤ l.countP p
  | [], _, x0, h, _, _ => by cases h
  | x :: l, hqp, x0, h, h1, h2 => by
    have hle : l.countP q ≤ l.countP p := List.countP_mono_left fun y _ => hqp y
    rw [List.countP_cons, List.countP_cons]
    cases h with
    | head => rw [h1, h2]; simp; omega
    | tail _ h =>
      have := countP_lt hqp x0 h h1 h2
      have : (if q x = true then 1 else 0) ≤ (if p x = true then 1 else 0) := by
        cases hq : q x with
        | false => simp
        | true => rw [hqp x hq]; simp
      omega

theorem tame_run {ops : Array Oper} {o : Oper} (h : tame o.op = true) (a : Act) (w : World) : ∃ u, Steps1 P ops o a w u w := by
  cases hw : Region.wanted o (yielded ops a.tmps) with
  | false => exact ⟨undef, .inr ⟨hw, rfl, rfl⟩⟩
  | true =>
    obtain ⟨dst, op, type, pos, after, guard⟩ := o
    cases op <;> simp only [tame, Bool.false_eq_true] at h
    case move x => exact ⟨_, .inl ⟨hw, rfl⟩⟩
    case assign x => exact ⟨_, .inl ⟨hw, rfl⟩⟩
    case makeFunc fn f c => exact ⟨_, .inl ⟨hw, rfl⟩⟩
theorem tame_light {o : Oper} (h : tame o.op = true) : cls P o.op ≠ 3 := by
  obtain ⟨dst, op, type, pos, after, guard⟩ := o
  cases op <;> simp [tame] at h <;> simp [cls]

theorem wrOps_mem {o : Oper} {t : Nat} (ht : o.dst = some t) : ∀ {l : List Oper}, o ∈ l → t ∈ wrOps l
  | [], h => by cases h
  | x :: l, h => by
    cases h with
    | head => simp [wrOps, ht]
    | tail _ h => simp only [wrOps]; split <;> simp [wrOps_mem ht h]

theorem wpAny_of_inv {β : Type} {K : List AV → AM β} {r : Res β} {Q : Exit → Act → World → Prop} (hpl : PlanOK P ops ms ks) (tr : Trace P C ops ks env0 h0 m hs es vs) (en : Ended P C ops ks K r m hs es) (hd0 : ∀ b x, μ0 b = some x → b < h0.next)
    (he0 : EnvRel μ0 env0 a0) (hg0 : GlobOK G μ0) (hok : ∀ o ∈ ops.toList, operOK G o = true) (hC : CallOK P G C) (hrec : ∀ h, C recId [] h = .bad)
    (hp : Post β μ0 h0 w0 a0 (wrOps ops.toList) r (fun env' h' => K env' h' = r) (Q .normal) (fun v => Q (.panic [{ v, recovered := false }]))) :
    ∀ (fuel : Nat) (listed : Array Bool) (a : Act) (w : World) (lo c : Nat) (μ : Inj), listed.size = ops.size → (List.range ops.size).countP (fun i => !listed.getD i true) ≤ fuel →
      (∀ i o, Sl listed i → ops[i]? = some o → m < i → tame o.op = true) → Inv P ops ms h0 m hs vs μ0 a0 w0 (Sl listed) a w lo c μ → wpAny P .any ops Q fuel listed a w := by
  have hm : m ≤ ops.size := by
    rcases en with ⟨h, _⟩ | ⟨o, _, _, _, h, _⟩
    · omega
    · have := (Array.getElem?_eq_some_iff.1 h).1; omega
  -- a heavy operation stands at the end, or there is none
  have hEnd : m < ops.size → Hv P ops m := fun h => by
    rcases en with ⟨h', _⟩ | ⟨o, l, x, hp', h1, h2, _⟩
    · omega
    · obtain ⟨k, l', hk, hkk, _⟩ := hpl.at_ m o h1
      rw [h2] at hk; cases hk
      refine ⟨o, h1, ?_⟩
      have hle := cls_le (P := P) o.op
      have h4 : cls P o.op = 0 ∨ cls P o.op = 1 ∨ cls P o.op = 2 ∨ cls P o.op = 3 := by omega
      rcases h4 with h | h | h | h
      · rw [h] at hkk; simp [kindOK] at hkk
      · rw [h] at hkk; simp [kindOK] at hkk
      · rw [h] at hkk; simp [kindOK] at hkk
      · exact h
  have keeps : ∀ {S a w lo c μ}, Inv P ops ms h0 m hs vs μ0 a0 w0 S a w lo c μ → Keeps (wrOps ops.toList) a0 a := fun I =>
    ⟨I.size, fun t ht => I.rest t fun i o _ ho hd => ht (wrOps_mem hd (by simpa using Array.mem_of_getElem? ho)), I.defers⟩
  -- the end
  have final : ∀ (listed : Array Bool) (a : Act) (w : World) (lo c : Nat) (μ : Inj), listed.size = ops.size → Inv P ops ms h0 m hs vs μ0 a0 w0 (Sl listed) a w lo c μ → Region.ready .any ops listed = [] → Q .normal a w := fun listed a w lo c μ hsz I hrd => by
    have hall := fun i hi => all_done hpl hsz hrd (i + 1) i (by omega) hi
    have hcm : c = m := by
      rcases Nat.lt_or_eq_of_le I.c_m with h | h
      · exact absurd (hall c (by omega)) (I.undone c (Nat.le_refl _) (I.c_hv h))
      · exact h
    have hmn : m = ops.size := by
      rcases Nat.lt_or_eq_of_le hm with h | h
      · exact absurd (hall m h) (I.undone m (by omega) (hEnd h))
      · exact h
    rcases en with ⟨_, hK⟩ | ⟨o, _, _, _, h, _⟩
    · have hr := I.R1 c I.lo_c (Nat.le_refl _)
      have n0 : h0.next ≤ (hs m).next := by have := tr.mono hpl (Nat.zero_le m) (Nat.le_refl _); rw [tr.hs0] at this; exact this
      refine hp.go (cut μ (hs c).next) (es m) (hs m) a w ?_ (by rw [← hcm]; rw [hcm] at hr ⊢; exact hr) ?_ (keeps I) hK
      · -- the temporaries
        have hlen0 : env0.length = a0.tmps.size := by have := VRels.length he0; rw [Array.length_toList] at this; exact this
        obtain ⟨l1, l2⟩ := tr.env hpl (Nat.le_refl m)
        have hsz' := I.size
        refine VRels.of_get (by rw [l1, hlen0, ← hsz', Array.length_toList]) fun t x hx => ?_
        have ht : t < a.tmps.size := by
          have := (List.getElem?_eq_some_iff.1 hx).1
          rw [l1, hlen0] at this; omega
        refine ⟨a.tmps[t], by simp [ht], ?_⟩
        have hgt : a.tmps.getD t undef = a.tmps[t] := by simp [Array.getD_eq_getD_getElem?, ht]
        obtain ⟨k1, k2⟩ := l2 t
        by_cases hw : ∃ k o', k < m ∧ ops[k]? = some o' ∧ o'.dst = some t
        · obtain ⟨k, o', hk, hko, hkd⟩ := hw
          have hv := I.vals k o' t hk (hall k (by omega)) hko hkd ht
          rw [k1 k o' hk hko hkd (by rw [hlen0, ← hsz']; exact ht)] at hx; cases hx
          rw [← hgt]
          exact hv.mono (cut_mono (by rw [hcm]; exact tr.mono hpl (by omega) (Nat.le_refl _)))
        · have hno : ∀ k o', k < m → ops[k]? = some o' → o'.dst ≠ some t := fun k o' hk hko hkd => hw ⟨k, o', hk, hko, hkd⟩
          rw [k2 hno] at hx
          have hr0 := I.rest t fun k o' hS hko => hno k o' (by have := (Array.getElem?_eq_some_iff.1 hko).1; omega) hko
          have := he0.getD t
          rw [List.getD_eq_getElem?_getD, hx, Array.getD_eq_getD_getElem?, ← hr0, ← Array.getD_eq_getD_getElem?, hgt] at this
          refine VRel.mono (fun b y hb => ?_) _ _ this
          have := hd0 b y hb
          rw [cut_lt (by rw [hcm]; omega)]; exact I.ext.sub b y hb
      · have := I.ext.cut (n := (hs c).next) (fun b x hb => by have := hd0 b x hb; rw [hcm]; omega)
        rw [hcm] at this ⊢; exact this
    · have := (Array.getElem?_eq_some_iff.1 h).1; omega
  intro fuel
  induction fuel with
  | zero =>
    intro listed a w lo c μ hsz hcnt htm I
    have hrd : Region.ready .any ops listed = [] := by
      cases hr : Region.ready .any ops listed with
      | nil => rfl
      | cons i l =>
        have hi : i ∈ Region.ready .any ops listed := by rw [hr]; simp
        unfold Region.ready at hi
        rw [List.mem_filter, Bool.and_eq_true] at hi
        have : 0 < (List.range ops.size).countP (fun i => !listed.getD i true) := List.countP_pos_iff.2 ⟨i, hi.1, hi.2.1⟩
        omega
    exact ⟨hrd, final listed a w lo c μ hsz I hrd⟩
  | succ fuel ih =>
    intro listed a w lo c μ hsz hcnt htm I
    refine ⟨final listed a w lo c μ hsz I, fun i hi => ?_⟩
    obtain ⟨o, ho, hnS, hil, hedges⟩ := ready_spec hi hsz
    obtain ⟨k, l, hk, hkk, _, hbits⟩ := hpl.at_ i o ho
    have hin : i < ops.size := by omega
    have hd : ∀ j, (ms.getD i 0).testBit j = true → Sl listed j := fun j hj => by
      obtain ⟨e, he, hb, h⟩ := hbits j hj
      rcases h with h | h
      · rw [← h]; exact hedges e he hb
      · exact I.down e.on (hedges e he hb) j h
    have hsz' : (listed.setIfInBounds i true).size = ops.size := by simp [hsz]
    have hcnt' : (List.range ops.size).countP (fun j => !(listed.setIfInBounds i true).getD j true) ≤ fuel := by
      have := countP_lt (l := List.range ops.size) (p := fun j => !listed.getD j true) (q := fun j => !(listed.setIfInBounds i true).getD j true) (fun j hj => ?_) i (by simpa using hin) ?_ ?_
      · omega
      · by_cases h : i = j
        · subst h; simp [Array.getD_eq_getD_getElem?, hil] at hj
        · simpa [Array.getD_eq_getD_getElem?, Array.getElem?_setIfInBounds_ne h] using hj
      · unfold Region.ready at hi
        rw [List.mem_filter, Bool.and_eq_true] at hi
        exact hi.2.1
      · simp [Array.getD_eq_getD_getElem?, hil]
    have htm' : (m < i → tame o.op = true) → ∀ j o', Sl (listed.setIfInBounds i true) j → ops[j]? = some o' → m < j → tame o'.op = true := fun h j o' hj hoj hmj => by
      rw [Sl.set hil] at hj
      rcases hj with hj | rfl
      · exact htm j o' hj hoj hmj
      · rw [ho] at hoj; cases hoj; exact h hmj
    rcases Nat.lt_or_ge i m with him | him
    · rcases Hv.dec P ops i with hh | hh
      · -- heavy: it is the next one
        have hic : i = c := by
          rcases Nat.lt_trichotomy i c with h | h | h
          · exact absurd (I.done i h hh) hnS
          · exact h
          · have hcv := I.c_hv (by omega)
            obtain ⟨oc, hoc, hcc⟩ := hcv
            obtain ⟨o', ho', hc'⟩ := hh
            rw [ho] at ho'; cases ho'
            rcases (hpl.pair c i oc o h hoc ho).2 with h' | ⟨_, h', _⟩
            · exact absurd (hd c h') (I.undone c (Nat.le_refl _) ⟨oc, hoc, hcc⟩)
            · have := h' l k hk
              rw [hcc, hc'] at this; simp [checkedOK] at this
        subst hic
        obtain ⟨o', k', l', ho', _, e, _⟩ := tr.step i him
        rw [ho] at ho'; cases ho'
        have L := I.looks hpl tr hd0 he0 ho hnS (by omega) hd
        have n0 : h0.next ≤ (hs i).next := by have := tr.mono hpl (Nat.zero_le i) (by omega); rw [tr.hs0] at this; exact this
        have gl : GlobOK G (cut μ (hs i).next) := fun g hgG => by
          obtain ⟨Z, hz⟩ := hg0 g hgG
          have := hd0 g _ hz
          exact ⟨Z, by rw [cut_lt (by omega)]; exact I.ext.sub _ _ hz⟩
        have hoK := hok o (by simpa using Array.mem_of_getElem? ho)
        have next : ∀ u w' μ1, Rel μ1 (hs (i + 1)) w' → Ext (cut μ (hs i).next) (hs i) w μ1 (hs (i + 1)) w' → VRel μ1 (vs i) u → wpAny P .any ops Q fuel (listed.setIfInBounds i true) (a.put o.dst u) w' := fun u w' μ1 g1 g2 g3 => by
          obtain ⟨c', μ', I'⟩ := I.heavy_next hpl tr hd0 ho him hd g1 g2 g3
          exact ih _ _ _ _ _ _ hsz' hcnt' (htm' fun h => by omega) (by rw [Sl.set hil]; exact I')
        have hR := I.R1 i I.lo_c (Nat.le_refl _)
        rcases opA_look hR gl hC (hrec _) L hoK (by rw [e]; simp) with ⟨hw, hm'⟩ | ⟨hw, hs'⟩
        · unfold wpOp
          rw [ho]
          simp only
          rw [if_pos hw]
          refine .inl (Upon.oper hm' ?_ ?_)
          · rintro v w' ⟨x, h', μ', e1, e2, e3, e4⟩
            rw [e] at e1; cases e1
            exact next v w' μ' e2 e3 e4
          · rintro v w' ⟨x, h', μ', e1, _⟩
            rw [e] at e1; cases e1
        · rw [e] at hs'
          have e1 : hs (i + 1) = hs i := by injection hs'
          have e2 : vs i = undefA := by injection hs'
          unfold wpOp
          rw [ho]
          simp only
          rw [if_neg (by simp [hw])]
          exact next undef w _ (by rw [e1]; exact hR) (by rw [e1]; exact Ext.refl) (by rw [e2]; exact undef_rel _)
      · obtain ⟨u, w', μ', s1, I'⟩ := I.light_step hpl tr hd0 he0 hg0 hok ho hnS hh him hd
        exact s1.wpOp ho (ih _ _ _ _ _ _ hsz' hcnt' (htm' fun h => by omega) (by rw [Sl.set hil]; exact I'))
    · -- behind the end: the operation that panics, or a tame one
      have hmn : m < ops.size := by omega
      rcases en with ⟨h', _⟩ | ⟨om, lm, x, hpp, hom, hkm, hpan, hrp⟩
      · omega
      · have hmv := hEnd hmn
        rcases Nat.lt_or_eq_of_le him with h | h
        · have ht : tame o.op = true := by
            rcases (hpl.pair m i om o h hom ho).2 with h' | ⟨_, _, h'⟩
            · exact absurd (hd m h') (I.undone m I.c_m hmv)
            · exact h' lm hkm
          obtain ⟨u, s1⟩ := tame_run (P := P) (ops := ops) ht a w
          have hl : ¬ Hv P ops i := fun ⟨o', ho', hc'⟩ => by rw [ho] at ho'; cases ho'; exact tame_light ht hc'
          refine s1.wpOp ho (ih _ _ _ lo c μ hsz' hcnt' (htm' fun _ => ht) ?_)
          rw [Sl.set hil]
          exact I.step_same hpl ho hnS hl hd (fun h' => by omega) (Grown.refl w) (fun h' => by omega)
        · subst h
          rw [ho] at hom; cases hom
          have hcm : c = m := by
            rcases Nat.lt_or_eq_of_le I.c_m with h | h
            · have hcv := I.c_hv h
              obtain ⟨oc, hoc, hcc⟩ := hcv
              obtain ⟨o', ho', hc'⟩ := hmv
              rw [ho] at ho'; cases ho'
              rcases (hpl.pair c m oc o h hoc ho).2 with h' | ⟨_, h', _⟩
              · exact absurd (hd c h') (I.undone c (Nat.le_refl _) ⟨oc, hoc, hcc⟩)
              · have := h' l k hk
                rw [hcc, hc'] at this; simp [checkedOK] at this
            · exact h
          subst hcm
          have L := I.looks hpl tr hd0 he0 ho hnS (Nat.le_refl _) hd
          have n0 : h0.next ≤ (hs c).next := by have := tr.mono hpl (Nat.zero_le c) (Nat.le_refl _); rw [tr.hs0] at this; exact this
          have gl : GlobOK G (cut μ (hs c).next) := fun g hgG => by
            obtain ⟨Z, hz⟩ := hg0 g hgG
            have := hd0 g _ hz
            exact ⟨Z, by rw [cut_lt (by omega)]; exact I.ext.sub _ _ hz⟩
          have hoK := hok o (by simpa using Array.mem_of_getElem? ho)
          have hR := I.R1 c I.lo_c (Nat.le_refl _)
          rcases opA_look hR gl hC (hrec _) L hoK (by rw [hpan]; simp) with ⟨hw, hm'⟩ | ⟨hw, hs'⟩
          · unfold wpOp
            rw [ho]
            simp only
            rw [if_pos hw]
            refine .inl (Upon.oper hm' ?_ ?_)
            · rintro v w' ⟨y, h', μ', e1, _⟩
              rw [hpan] at e1; cases e1
            · rintro v w' ⟨y, h', μ', e1, e2, e3, e4⟩
              rw [hpan] at e1; cases e1
              have e0 := I.ext.cut (n := (hs c).next) (fun b x hb => by have := hd0 b x hb; omega)
              exact hp.pan μ' _ v _ a w' hrp e2 (e0.trans hR e3) (keeps I) e4
          · rw [hpan] at hs'; cases hs'
end
end Go.Am
/- Regions that draw their order: the law. -/
namespace Go.Am

variable {P : Program}

theorem evalD_sound {C : CallOp} {ops : Array Oper} {ms : List Nat} {ks : List (Nat × List Nat)} {G : Nat} (hmix : P.follows .mixedOrders = true) (hplan : planOK P ops ms ks = true) (hok : ∀ o ∈ ops.toList, operOK G o = true) (hC : CallOK P G C) (hrec : ∀ h, C recId [] h = .bad)
    {β : Type} {K : List AV → AM β} {r : Res β} (hbad : r ≠ .bad) {Q : Exit → Act → World → Prop} {id : Nat} {env : List AV} {μ : Inj} {h : AHeap} {w : World} {a : Act} (he : EnvRel μ env a) (hr : Rel μ h w) (hg : GlobOK G μ)
    (e : evalD P C ops ks 0 env [] [] K h = r) (hp : Post β μ h w a (wrOps ops.toList) r (fun env' h' => K env' h' = r) (Q .normal) (fun v => Q (.panic [{ v, recovered := false }]))) : (Code.region id ops true).wp P Q a w := by
  have hpl := planOK_spec hplan
  refine wp_region_any hmix ?_
  have hgw : Grown w { w with drawn := w.drawn + 1 } := ⟨⟨#[], by simp⟩, rfl, rfl⟩
  obtain ⟨hr1, hx1⟩ := Grown.rel hr hgw
  generalize ({ w with drawn := w.drawn + 1 } : World) = w1 at *
  have hp1 : Post β μ h w1 a (wrOps ops.toList) r (fun env' h' => K env' h' = r) (Q .normal) (fun v => Q (.panic [{ v, recovered := false }])) :=
    ⟨fun μ' env' h' a' w' q1 q2 q3 q4 q5 => hp.go μ' env' h' a' w' q1 q2 (hx1.trans hr1 q3) q4 q5, fun μ' x v h' a' w' q1 q2 q3 q4 q5 => hp.pan μ' x v h' a' w' q1 q2 (hx1.trans hr1 q3) q4 q5⟩
  have hd0 : ∀ b x, μ b = some x → b < h.next := fun b x hb => by obtain ⟨C', d, S⟩ := x; exact (hr.obj b C' d S hb).1
  obtain ⟨m, hs, es, vs, tr, en⟩ := evalD_trace hbad (ks0 := ks) (env0 := env) (h0 := h) ks 0 env [] [] h rfl e (fun _ => h) (fun _ => env) (fun _ => undefA)
    ⟨rfl, rfl, fun i hi => by omega, fun i hi => by omega, fun q hq => by omega⟩ rfl rfl (fun q x hx => by cases hx) (fun x hx => by cases hx)
  have hs0 := tr.hs0
  obtain ⟨c, c1, c2, c3, c4⟩ := next_heavy (P := P) ops m m 0 (by omega) (by omega)
  have hno : ∀ i, ¬ Sl (Array.replicate ops.size false) i := fun i hi => by
    unfold Sl at hi
    rw [Array.getElem?_replicate] at hi
    split at hi <;> simp at hi
  have n0 : ∀ j, j ≤ m → h.next ≤ (hs j).next := fun j hj => by have := tr.mono hpl (Nat.zero_le j) hj; rw [hs0] at this; exact this
  have cut0 : cut μ (hs 0).next = μ := by
    funext b
    rcases Nat.lt_or_ge b (hs 0).next with hb | hb
    · rw [cut_lt hb]
    · rw [cut_ge hb]
      cases hm : μ b with
      | none => rfl
      | some x => have := hd0 b x hm; rw [hs0] at hb; omega
  have free : ∀ i, i ≤ m → μ (hs i).next = none := fun i hi => by
    cases hm : μ (hs i).next with
    | none => rfl
    | some x => have := hd0 _ x hm; have := n0 i hi; omega
  have grow : ∀ {i x fl}, hs (i + 1) = newBlk (hs i) x fl → (hs i).next < (hs (i + 1)).next := fun h => by rw [h]; simp [newBlk]
  refine wpAny_of_inv hpl tr en hd0 he hg hok hC hrec hp1 ops.size (Array.replicate ops.size false) a w1 0 c μ (by simp) ?_ (fun i o hi => absurd hi (hno i)) ?_
  · have := List.countP_le_length (p := fun i => !(Array.replicate ops.size false).getD i true) (l := List.range ops.size)
    simpa using this
  · exact
      { lo_c := Nat.zero_le _, c_m := c2
        done := fun q h1 h2 => absurd h2 (c4 q (Nat.zero_le _) h1)
        undone := fun q _ _ => hno q
        c_hv := c3
        seg := fun j _ h2 => c4 j (Nat.zero_le _) h2
        lo_hv := .inl rfl
        down := fun k hk => absurd hk (hno k)
        R1 := fun j h1 h2 => walk tr (l := 0) (by rw [cut0, hs0]; exact hr1) h1 (by omega) (fun i a1 a2 => c4 i a1 (by omega)) (fun i x fl a1 a2 _ _ => .inl (free i (by omega)))
        dom := fun b x hb => .inl (by have := hd0 b x hb; have := n0 c c2; omega)
        inC := fun b C' d S' hb => (hr1.obj b C' d S' hb).2.1
        pend := fun i x fl _ _ hS => absurd hS (hno i)
        late := fun i x fl h1 _ _ _ h5 => by
          refine ⟨free i (by omega), fun j _ j2 j3 => ?_⟩
          have g := grow h5
          obtain ⟨s1, s2, _⟩ := tr.seg (l := i + 1) (j := j) j2 (by omega) (fun i' a1 a2 => c4 i' (Nat.zero_le _) (by omega)) (hs i).next (by omega)
          rw [s1, s2, h5]
          exact ⟨newBlk_objs_same, fun hfl => by subst hfl; exact newBlk_fams_same⟩
        ext := by
          have hseg : ∀ b, b < h.next → (hs c).objs.get b = h.objs.get b ∧ (hs c).fams.get b = h.fams.get b := fun b hb => by
            obtain ⟨s1, s2, _⟩ := tr.seg (l := 0) (j := c) (Nat.zero_le _) c2 (fun i a1 a2 => c4 i a1 a2) b (by rw [hs0]; exact hb)
            rw [hs0] at s1 s2
            exact ⟨s1, s2⟩
          exact Ext.change (Ext.refl (μ := μ) (h := h) (w := w1)) (Inj.le_refl _) (fun _ _ _ _ hb => .inl hb) hd0 (n0 c c2) (fun b hb => (hseg b hb).1) (fun b hb => (hseg b hb).2)
        vals := fun i o d _ hS => absurd hS (hno i)
        rest := fun t _ => rfl
        size := rfl
        defers := rfl }
end Go.Am
