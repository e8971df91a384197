/- A text of the claim: AmOpK, AmStep, AmRun, AmLight, AmLight2. -/
import Derived.Test.YtmgkfcdmpbcmkaaGreatDoorAmC
import Derived.Test.YtmgkfcdmpbcmkaaGreatDoorAmA
import Derived.LoopN
import Derived.Orders
/- The abstract machine against the model: lookup, update, delete, make. -/
namespace Go.Am

variable {P : Program}

theorem lookA_sound {μ : Inj} {h : AHeap} {w : World} (hr : Rel μ h w) {t : TypeId} {x k : AV} {x' k' : Value} {ok : Bool} (hx : VRel μ x x') (hk : VRel μ k k') (hb : lookA P t x k ok h ≠ .bad) :
    MeetsS P μ h w (lookA P t x k ok h) (Instr.lookup t x' k' ok) := by
  unfold lookA at *
  rcases hu : P.underlying t with _ | d
  · rw [hu] at hb; exact absurd rfl hb
  · cases d <;> simp only [hu] at hb ⊢ <;> try (exact absurd rfl hb)
    case map kt et =>
      rcases hm : mapOf h x with _ | es
      · rw [hm] at hb; exact absurd rfl hb
      · rw [hm] at hb
        simp only at hb ⊢
        cases hok : keyOK P kt k with
        | false => rw [hok] at hb; exact absurd rfl hb
        | true =>
          rw [hok] at hb
          simp only [cond] at hb ⊢
          rcases hf : findA P kt k es 0 with _ | r
          · rw [hf] at hb; exact absurd rfl hb
          · rw [hf] at hb
            -- the model's entries
            obtain ⟨r', f2, model⟩ : ∃ r', FindRel μ r r' ∧ (Instr.lookup t x' k' ok).run P w = ((do
                let (v, b) ← match r' with
                  | some (_, v) => pure (v, true)
                  | none => pure (← zeroValue et, false)
                pure (if ok then Value.tuple #[v, .bool b] else v)) : Sem Value).run P w := by
              have hc : ∀ e, (Instr.checkKey e 10000 kt k').run P w = .ok () w := fun e => keyOK_check hk hok
              rcases mapOf_sound hr hx hm with ⟨rfl, rfl⟩ | ⟨r, C, dd, S, rfl, rfl, _, _, ents, clock, g1, g2⟩
              · obtain ⟨r', f1, f2⟩ := findKey_sound (w := w) (l := []) hk hok (by simp [EntsRel]) hf
                exact ⟨r', f2, by simp only [Instr.lookup, Sem.run_bind, run_underlying hu, Result.andThen_ok, Sem.run_pure, hc, f1]; cases r' <;> rfl⟩
              · obtain ⟨r', f1, f2⟩ := findKey_sound (w := w) hk hok g2 hf
                exact ⟨r', f2, by simp only [Instr.lookup, Sem.run_bind, run_underlying hu, Result.andThen_ok, Sem.run_pure, hc, f1, getObj_run g1]; cases r' <;> rfl⟩
            rcases r with _ | ⟨i, v⟩
            · cases r' with
              | some y => exact absurd f2 (by simp [FindRel])
              | none =>
                simp only at hb ⊢
                rcases hz : zeroA P et with _ | z
                · rw [hz] at hb; exact absurd rfl hb
                · simp only
                  obtain ⟨v, z1, z2⟩ := zeroA_sound hz w
                  cases ok with
                  | true => exact MeetsS.same (v := .tuple #[v, .bool false]) rfl (by rw [model]; simp [z1]) ⟨_, rfl, ⟨_, _, rfl, z2 μ, ⟨_, _, rfl, rfl, rfl⟩⟩⟩
                  | false => exact MeetsS.same (v := v) rfl (by rw [model]; simp [z1]) (z2 μ)
            · cases r' with
              | none => exact absurd f2 (by simp [FindRel])
              | some y =>
                obtain ⟨j, v'⟩ := y
                obtain ⟨_, hv⟩ := f2
                simp only
                cases ok with
                | true => exact MeetsS.same (v := .tuple #[v', .bool true]) rfl (by rw [model]; simp) ⟨_, rfl, ⟨_, _, rfl, hv, ⟨_, _, rfl, rfl, rfl⟩⟩⟩
                | false => exact MeetsS.same (v := v') rfl (by rw [model]; simp) hv

/- ### a map is set -/
theorem Rel.setMap {μ : Inj} {h : AHeap} {w w' : World} (hr : Rel μ h w) {r C d S : Nat} (hm : μ r = some (C, d, S)) {es es' : List (AV × AV)} (ho : h.objs.get r = some (.map es)) {ents : Array MapEntry} {clock : Nat}
    (hw : w'.heap = w.heap.setIfInBounds C (.map ents clock)) (hos : w'.os = w.os) (hout : w'.output = w.output) (he : EntsRel μ es' ents.toList) :
    Rel μ { h with objs := h.objs.set r (.map es') } w' ∧ Ext μ h w μ { h with objs := h.objs.set r (.map es') } w' := by
  obtain ⟨hrn, hC, o, ho', hor⟩ := hr.obj r C d S hm
  rw [ho] at ho'; cases ho'
  have hd : d = 0 := hor.1
  have size : w'.heap.size = w.heap.size := by rw [hw]; simp
  have hne : ∀ C', C' ≠ C → w'.heap[C']? = w.heap[C']? := fun C' hC' => by rw [hw, Array.getElem?_setIfInBounds_ne (Ne.symm hC')]
  have heq : w'.heap[C]? = some (.map ents clock) := by rw [hw, Array.getElem?_setIfInBounds_self_of_lt hC]
  have key : ∀ k, k ≠ r → ∀ C' d' S', μ k = some (C', d', S') → C' ≠ C := fun k hk C' d' S' hmk e => by
    subst e
    obtain ⟨_, _, o', ho'', _⟩ := hr.obj k C' d' S' hmk
    rcases hr.sep k r C' d' S' d S o' _ hmk hm ho'' ho with rfl | hs
    · exact hk rfl
    · cases o' <;> simp [SepOK] at hs
  have notmap : ∀ {k : Nat} {o : AObj}, Tr.get (h.objs.set r (.map es')) k = some o → (∀ es, o ≠ .map es) → h.objs.get k = some o ∧ k ≠ r := fun {k o} hk hno => by
    by_cases e : k = r
    · subst e; rw [Tr.get_set_same] at hk; cases hk; exact absurd rfl (hno _)
    · rw [Tr.get_set_ne _ _ _ _ e] at hk; exact ⟨hk, e⟩
  refine ⟨?_, ?_⟩
  · exact
      { obj := fun k C' d' S' hmk => by
          obtain ⟨i1, i2, o', i3, i4⟩ := hr.obj k C' d' S' hmk
          refine ⟨i1, by rw [size]; exact i2, ?_⟩
          by_cases hk : k = r
          · subst hk
            rw [hm] at hmk; cases hmk
            exact ⟨_, Tr.get_set_same _ _ _, hd, ents, clock, heq, he⟩
          · exact ⟨o', by simp only [Tr.get_set_ne _ _ _ _ hk]; exact i3, ObjRel.congr (h := h) (w := w) (hne _ (key k hk _ _ _ hmk)) (fun _ _ => rfl) i4⟩
        sep := fun b1 b2 C' d1 S1 d2 S2 o1 o2 m1 m2 p1 p2 => by
          by_cases k1 : b1 = r
          · by_cases k2 : b2 = r
            · exact .inl (k1.trans k2.symm)
            · subst k1; rw [hm] at m1; cases m1
              exact absurd rfl (key b2 k2 _ _ _ m2)
          · by_cases k2 : b2 = r
            · subst k2; rw [hm] at m2; cases m2
              exact absurd rfl (key b1 k1 _ _ _ m1)
            · simp only [Tr.get_set_ne _ _ _ _ k1] at p1; simp only [Tr.get_set_ne _ _ _ _ k2] at p2
              exact hr.sep b1 b2 C' d1 S1 d2 S2 o1 o2 m1 m2 p1 p2
        ver := fun b1 b2 x1 x2 cs1 cs2 f v m1 m2 p1 p2 => hr.ver b1 b2 x1 x2 cs1 cs2 f v m1 m2 (notmap p1 (by simp)).1 (notmap p2 (by simp)).1
        ord := fun b1 b2 C' d1 S1 d2 S2 cs1 cs2 f v1 v2 top lo m1 m2 p1 p2 pf l1 l2 =>
          hr.ord b1 b2 C' d1 S1 d2 S2 cs1 cs2 f v1 v2 top lo m1 m2 (notmap p1 (by simp)).1 (notmap p2 (by simp)).1 pf l1 l2
        fid := fun k x cs f v m1 p1 => hr.fid k x cs f v m1 (notmap p1 (by simp)).1 }
  · exact
      { sub := Inj.le_refl _
        newA := fun _ _ h => .inl h
        newC := fun _ _ _ _ h h' => by rw [h] at h'; cases h'
        next := Nat.le_refl _
        size := by rw [size]; exact Nat.le_refl _
        frC := fun C' _ hro => hne _ (fun e => by
          subst e
          have := hro r d S hm
          rw [ho] at this; exact this)
        frA := fun k _ hk => ⟨Tr.get_set_ne _ _ _ _ (fun e => by subst e; rw [hm] at hk; cases hk), rfl⟩
        ro := fun k x _ hro => Tr.get_set_ne _ _ _ _ (fun e => by subst e; rw [ho] at hro; exact hro)
        os := hos
        output := hout }

theorem setObj_run {w : World} {C : Nat} {ents : Array MapEntry} {clock : Nat} (h : w.heap[C]? = some (.map ents clock)) (o : Obj) : ∃ w', (setObj C o).run P w = .ok () w' ∧ w'.heap = w.heap.setIfInBounds C o ∧ w'.os = w.os ∧ w'.output = w.output := by
  simp only [setObj, Sem.run, h]
  exact ⟨_, rfl, rfl, rfl, rfl⟩

theorem EntsRel.set {μ : Inj} {k v : AV} {k' v' : Value} (hk : VRel μ k k') (hv : VRel μ v v') {b : Nat} : ∀ {es : List (AV × AV)} {l : List MapEntry} (i : Nat), EntsRel μ es l →
    EntsRel μ (es.set i (k, v)) (l.modify i fun e => { e with key := k', val := v' })
  | [], l, i, h => by rw [EntsRel] at h; subst h; simp [EntsRel]
  | (k2, v2) :: es, _, i, h => by
    obtain ⟨e, l', rfl, h1, h2, h3⟩ := h
    cases i with
    | zero => exact ⟨_, _, rfl, hk, hv, h3⟩
    | succ i => exact ⟨_, _, rfl, h1, h2, h3.set hk hv (b := b) i⟩
theorem EntsRel.push {μ : Inj} {k v : AV} {e : MapEntry} (hk : VRel μ k e.key) (hv : VRel μ v e.val) : ∀ {es : List (AV × AV)} {l : List MapEntry}, EntsRel μ es l → EntsRel μ (es ++ [(k, v)]) (l ++ [e])
  | [], l, h => by rw [EntsRel] at h; subst h; exact ⟨_, _, rfl, hk, hv, rfl⟩
  | (k2, v2) :: es, _, h => by
    obtain ⟨e', l', rfl, h1, h2, h3⟩ := h
    exact ⟨_, _, rfl, h1, h2, h3.push hk hv⟩
theorem EntsRel.erase {μ : Inj} : ∀ {es : List (AV × AV)} {l : List MapEntry} (i : Nat), EntsRel μ es l → EntsRel μ (es.eraseIdx i) (l.eraseIdx i)
  | [], l, i, h => by rw [EntsRel] at h; subst h; simp [EntsRel]
  | (k2, v2) :: es, _, i, h => by
    obtain ⟨e, l', rfl, h1, h2, h3⟩ := h
    cases i with
    | zero => simpa using h3
    | succ i => exact ⟨_, _, rfl, h1, h2, h3.erase i⟩

/- what is found bears the key -/
theorem findA_key {t : TypeId} {k : AV} : ∀ {es : List (AV × AV)} {i j : Nat} {v : AV}, findA P t k es i = some (some (j, v)) → ∃ n k2, j = i + n ∧ es[n]? = some (k2, v) ∧ keyEq P t k k2 = some true
  | [], i, j, v, h => by simp [findA] at h
  | (k2, v2) :: es, i, j, v, h => by
    simp only [findA] at h
    rcases hb : keyEq P t k k2 with _ | b
    · rw [hb] at h; cases h
    · rw [hb] at h
      cases b with
      | true => simp only [Option.some.injEq, Prod.mk.injEq] at h; obtain ⟨rfl, rfl⟩ := h; exact ⟨0, k2, rfl, rfl, hb⟩
      | false =>
        simp only at h
        obtain ⟨n, k3, h1, h2, h3⟩ := findA_key h
        exact ⟨n + 1, k3, by omega, by simpa using h2, h3⟩
theorem EntsRel.get {μ : Inj} : ∀ {es : List (AV × AV)} {l : List MapEntry} {i : Nat} {k v : AV}, EntsRel μ es l → es[i]? = some (k, v) → ∃ e, l[i]? = some e ∧ VRel μ k e.key ∧ VRel μ v e.val
  | [], l, i, k, v, h, hi => by simp at hi
  | (k2, v2) :: es, _, i, k, v, h, hi => by
    obtain ⟨e, l', rfl, h1, h2, h3⟩ := h
    cases i with
    | zero => simp at hi; obtain ⟨rfl, rfl⟩ := hi; exact ⟨e, rfl, h1, h2⟩
    | succ i => simp at hi; obtain ⟨e', g1, g2⟩ := h3.get hi; exact ⟨e', by simpa using g1, g2⟩

theorem keyStays_run {μ : Inj} {t : TypeId} {k k2 : AV} {k' k2' : Value} (h : keyEq P t k k2 = some true) (hk : VRel μ k k') (hk2 : VRel μ k2 k2') (w : World) : (Instr.keyThatStays k2' k').run P w = .ok k' w := by
  obtain ⟨e, q⟩ := keyEq_vals h hk hk2
  subst e
  have := q 9999
  simp only [Instr.keyThatStays, this, if_true, Sem.run_pure]

theorem mupdA_sound {μ : Inj} {h : AHeap} {w : World} (hr : Rel μ h w) {t : TypeId} {m k v : AV} {m' k' v' : Value} (hm : VRel μ m m') (hk : VRel μ k k') (hv : VRel μ v v') {h' : AHeap} (hb : mupdA P t m k v h = .ok () h') :
    ∃ w', (Instr.mapUpdate t m' k' v').run P w = .ok () w' ∧ Rel μ h' w' ∧ Ext μ h w μ h' w' := by
  unfold mupdA at hb
  rcases hu : P.underlying t with _ | d
  · rw [hu] at hb; cases hb
  · cases d <;> simp only [hu, reduceCtorEq] at hb
    case map kt et =>
      cases m <;> try (cases hb)
      case map r =>
        cases r with
        | none => cases hb
        | some r =>
          simp only at hb
          rcases ho : h.objs.get r with _ | o
          · rw [ho] at hb; cases hb
          · cases o <;> simp only [ho, reduceCtorEq] at hb
            case map es =>
              obtain ⟨C, d, S, hm, rfl⟩ := hm
              obtain ⟨_, _, o, ho', hor⟩ := hr.obj r C d S hm
              rw [ho] at ho'; cases ho'
              obtain ⟨_, ents, clock, g1, g2⟩ := hor
              cases hok : keyOK P kt k with
              | false => rw [hok] at hb; cases hb
              | true =>
                rw [hok] at hb
                simp only [cond] at hb
                have hc : ∀ e, (Instr.checkKey e 10000 kt k').run P w = .ok () w := fun e => keyOK_check hk hok
                rcases hf : findA P kt k es 0 with _ | f
                · rw [hf] at hb; cases hb
                · rw [hf] at hb
                  obtain ⟨r', f1, f2⟩ := findKey_sound (w := w) hk hok g2 hf
                  rcases f with _ | ⟨i, va⟩
                  · simp only [Res.ok.injEq, true_and] at hb
                    subst hb
                    cases r' with
                    | some y => exact absurd f2 (by simp [FindRel])
                    | none =>
                      obtain ⟨w', s1, s2, s3, s4⟩ := setObj_run (P := P) g1 (.map (ents.push { key := k', val := v', born := clock }) (clock + 1))
                      have := hr.setMap (w' := w') (es' := es ++ [(k, v)]) hm ho s2 s3 s4 (by simpa using g2.push (e := { key := k', val := v', born := clock }) hk hv)
                      exact ⟨w', by simp only [Instr.mapUpdate, Sem.run_bind, run_underlying hu, Result.andThen_ok, getObj_run g1, hc, f1, s1], this⟩
                  · simp only [Res.ok.injEq, true_and, setAt] at hb
                    subst hb
                    cases r' with
                    | none => exact absurd f2 (by simp [FindRel])
                    | some y =>
                      obtain ⟨j, vj⟩ := y
                      obtain ⟨rfl, _⟩ := f2
                      obtain ⟨n, k2, hn, hes, hkey⟩ := findA_key hf
                      obtain rfl : i = n := by omega
                      obtain ⟨e, he, hke, _⟩ := g2.get hes
                      have he' : ents[i]? = some e := by simpa using he
                      obtain ⟨w', s1, s2, s3, s4⟩ := setObj_run (P := P) g1 (.map (ents.modify i fun e => { e with key := k', val := v' }) clock)
                      have := hr.setMap (w' := w') (es' := es.set i (k, v)) hm ho s2 s3 s4 (by simpa using g2.set (b := 0) hk hv i)
                      refine ⟨w', ?_, this⟩
                      simp only [Instr.mapUpdate, Sem.run_bind, run_underlying hu, Result.andThen_ok, getObj_run g1, hc, f1, he', Option.map_some, Option.getD_some, keyStays_run hkey hk hke, s1]

theorem Ext.of_heap {μ : Inj} {h : AHeap} {w w' : World} (hw : w'.heap = w.heap) (hos : w'.os = w.os) (hout : w'.output = w.output) : Ext μ h w μ h w' where
  sub := Inj.le_refl _
  newA := fun _ _ h => .inl h
  newC := fun _ _ _ _ h h' => by rw [h] at h'; cases h'
  next := Nat.le_refl _
  size := by rw [hw]; exact Nat.le_refl _
  frC := fun _ _ _ => by rw [hw]
  frA := fun _ _ _ => ⟨rfl, rfl⟩
  ro := fun _ _ _ _ => rfl
  os := hos
  output := hout

theorem mdelA_sound {μ : Inj} {h : AHeap} {w : World} (hr : Rel μ h w) {t ty : TypeId} {ts : Array TypeId} (hts : ts[0]? = some t) {m k : AV} {m' k' : Value} (hm : VRel μ m m') (hk : VRel μ k k') (hb : mdelA P t m k h ≠ .bad) :
    MeetsV P μ h w (mdelA P t m k h) (Builtin.delete_ ts ty #[m', k']) := by
  unfold mdelA at *
  rcases hu : P.underlying t with _ | d
  · rw [hu] at hb; exact absurd rfl hb
  · cases d <;> simp only [hu] at hb ⊢ <;> try (exact absurd rfl hb)
    case map kt et =>
      cases m <;> try (exact absurd rfl hb)
      case map r =>
        cases r with
        | none =>
          simp only at hb ⊢
          rw [VRel] at hm; subst hm
          cases hok : keyOK P kt k with
          | false => rw [hok] at hb; exact absurd rfl hb
          | true =>
            have hc : ∀ e, (Instr.checkKey e 10000 kt k').run P w = .ok () w := fun e => keyOK_check hk hok
            exact MeetsV.same hr rfl (by simp [Builtin.delete_, hts, run_underlying hu, hc]; rfl) (undef_rel μ)
        | some r =>
          simp only at hb ⊢
          rcases ho : h.objs.get r with _ | o
          · rw [ho] at hb; exact absurd rfl hb
          · cases o <;> simp only [ho] at hb ⊢ <;> try (exact absurd rfl hb)
            case map es =>
              obtain ⟨C, d, S, hm, rfl⟩ := hm
              obtain ⟨_, _, o, ho', hor⟩ := hr.obj r C d S hm
              rw [ho] at ho'; cases ho'
              obtain ⟨_, ents, clock, g1, g2⟩ := hor
              cases hok : keyOK P kt k with
              | false => rw [hok] at hb; exact absurd rfl hb
              | true =>
                rw [hok] at hb
                simp only [cond] at hb ⊢
                have hc : ∀ e, (Instr.checkKey e 10000 kt k').run P w = .ok () w := fun e => keyOK_check hk hok
                rcases hf : findA P kt k es 0 with _ | f
                · rw [hf] at hb; exact absurd rfl hb
                · rw [hf] at hb
                  obtain ⟨r', f1, f2⟩ := findKey_sound (w := w) hk hok g2 hf
                  rcases f with _ | ⟨i, va⟩
                  · cases r' with
                    | some y => exact absurd f2 (by simp [FindRel])
                    | none =>
                      simp only
                      obtain ⟨w', s1, s2, s3, s4⟩ := setObj_run (P := P) g1 (.map ents clock)
                      have hsame : w'.heap = w.heap := by
                        rw [s2]
                        apply Array.ext_getElem?
                        intro i
                        rw [Array.getElem?_setIfInBounds]
                        split
                        · rename_i e; subst e; exact g1.symm
                        · rfl
                      have := Ext.of_heap (μ := μ) (h := h) hsame s3 s4
                      exact ⟨_, h, μ, _, w', rfl, by simp [Builtin.delete_, hts, run_underlying hu, getObj_run g1, hc, f1, s1]; rfl, hr.heap_eq hsame, this, undef_rel μ⟩
                  · cases r' with
                    | none => exact absurd f2 (by simp [FindRel])
                    | some y =>
                      obtain ⟨j, vj⟩ := y
                      obtain ⟨rfl, _⟩ := f2
                      simp only
                      obtain ⟨w', s1, s2, s3, s4⟩ := setObj_run (P := P) g1 (.map (ents.eraseIdxIfInBounds i) clock)
                      have := hr.setMap (w' := w') (es' := es.eraseIdx i) hm ho s2 s3 s4 (by simpa using g2.erase i)
                      exact ⟨_, _, μ, _, w', rfl, by simp [Builtin.delete_, hts, run_underlying hu, getObj_run g1, hc, f1, s1]; rfl, this.1, this.2, undef_rel μ⟩

theorem nwMap_sound {μ : Inj} {h : AHeap} {w : World} {t : TypeId} : MeetsN P μ h w (nwMap h) (Instr.makeMap t none) :=
  .inr ⟨fun b => .map (some b), .map (some w.heap.size), w.alloc (.map #[] 0), .map [], false, .map #[] 0, 0, rfl, by simp [Instr.makeMap, newObj, Sem.run], rfl, rfl, rfl, .map, fun _ _ hb => ⟨_, _, _, hb, rfl⟩⟩
end Go.Am
/- The abstract machine against the model: one operation. -/
namespace Go.Am

variable {P : Program}

/-- the program's variables stand at the head of the memory -/
def GlobOK (G : Nat) (μ : Inj) : Prop := ∀ g, g < G → ∃ S, μ g = some (g, 0, S)
theorem GlobOK.mono {G : Nat} {μ μ' : Inj} (h : GlobOK G μ) (hm : μ.le μ') : GlobOK G μ' := fun g hg => by obtain ⟨S, e⟩ := h g hg; exact ⟨S, hm _ _ e⟩
/-- A call of the abstract machine speaks of the model's call. -/
def CallOK (P : Program) (G : Nat) (C : CallOp) : Prop := ∀ {μ : Inj} {h : AHeap} {w : World} {f : FuncId} {as : List AV} {vs : Array Value}, f ≠ recId → Rel μ h w → GlobOK G μ → VRels μ as vs.toList → C f as h ≠ .bad →
  Meets P μ h w (C f as h) ((callFunc f vs).run P w)

def isRec : Op → Bool
  | .call c => match c.callee with
    | .builtin .recover => true
    | _ => false
  | _ => false

theorem Meets.ofV {μ : Inj} {h : AHeap} {w : World} {r : Res AV} {s : Sem Value} (hm : MeetsV P μ h w r s) : Meets P μ h w r ((do pure (.value (← s)) : Sem Next).run P w) := by
  obtain ⟨a, h', μ', v, w', e1, e2, e3, e4, e5⟩ := hm
  exact Meets.val' e1 (by simp [e2]) e3 e4 e5
theorem Meets.ofS {μ : Inj} {h : AHeap} {w : World} {r : Res AV} {s : Sem Value} (hr : Rel μ h w) (hm : MeetsS P μ h w r s) : Meets P μ h w r ((do pure (.value (← s)) : Sem Next).run P w) := Meets.ofV (hm.toV hr)
theorem Meets.ofN {μ : Inj} {h : AHeap} {w : World} {r : Res AV} {s : Sem Value} (hr : Rel μ h w) (hm : MeetsN P μ h w r s) : Meets P μ h w r ((do pure (.value (← s)) : Sem Next).run P w) := Meets.ofV (hm.toV hr)
theorem Meets.ofU {μ : Inj} {h : AHeap} {w : World} {r : Res AV} {s : Sem Unit} (hm : MeetsU P μ h w r s) : Meets P μ h w r ((do s; pure .skip : Sem Next).run P w) := by
  obtain ⟨h', μ', w', e1, e2, e3, e4⟩ := hm
  exact Meets.skip e1 (by simp [e2]) e3 e4

theorem VRels.map_ev {μ : Inj} {ev : Operand → AV} {ρ : Operand → Value} : ∀ {l : List Operand}, (∀ x ∈ l, VRel μ (ev x) (ρ x)) → VRels μ (l.map ev) (l.map ρ)
  | [], _ => rfl
  | x :: l, h => ⟨_, _, rfl, h x (by simp), VRels.map_ev fun y hy => h y (by simp [hy])⟩
theorem PartsRel.ev {μ : Inj} {ev : Operand → AV} {ρ : Operand → Value} : ∀ {l : List (Nat × Operand)}, (∀ x ∈ l.map (·.2), VRel μ (ev x) (ρ x)) → PartsRel μ (l.map fun (i, x) => (i, ev x)) (l.map fun (i, x) => (i, ρ x))
  | [], _ => rfl
  | (i, x) :: l, h => ⟨_, _, rfl, h x (by simp), PartsRel.ev fun y hy => h y (by simp at hy ⊢; exact .inr hy)⟩
theorem ORel.opt {μ : Inj} {ev : Operand → AV} {ρ : Operand → Value} {x : Option Operand} (h : ∀ y ∈ x, VRel μ (ev y) (ρ y)) : ORel μ (optO ev x) (x.map ρ) := by
  cases x with
  | none => trivial
  | some y => exact h y rfl

theorem ofOpt_not_bad {a : Option AV} {h : AHeap} (hb : ofOpt a h ≠ .bad) : ∃ b, a = some b ∧ ofOpt a h = .ok b h := by
  cases a with
  | none => exact absurd rfl hb
  | some b => exact ⟨b, rfl, rfl⟩

theorem zeroTuple_sound {μ : Inj} {h : AHeap} {w : World} {u : TypeId} {s : Sem Value} (hs : ∀ v, (zeroValue u).run P w = .ok v w → s.run P w = .ok (.tuple #[v, .bool false]) w) {r : AM AV}
    (e : r = match zeroA P u with | some z => AM.ret (.tuple [z, .bool false]) | none => AM.bad) (hb : r h ≠ .bad) : MeetsS P μ h w (r h) s := by
  subst e
  rcases hz : zeroA P u with _ | z
  · rw [hz] at hb; exact absurd rfl hb
  · obtain ⟨v, z1, z2⟩ := zeroA_sound hz w
    exact MeetsS.same (a := .tuple [z, .bool false]) (by simp only; rfl) (hs v z1) ⟨_, rfl, ⟨_, _, rfl, z2 μ, ⟨_, _, rfl, rfl, rfl⟩⟩⟩

theorem assertA_sound {μ : Inj} {h : AHeap} {w : World} {x : AV} {x' : Value} {t u : TypeId} (hx : VRel μ x x') (hb : assertA P x u h ≠ .bad) : MeetsS P μ h w (assertA P x u h) (Instr.typeAssert x' t u true) := by
  unfold assertA at *
  rcases hu : P.underlying u with _ | d
  · rw [hu] at hb; exact absurd rfl hb
  · have key : (∀ m, d ≠ .interface m) → (match x with
        | .nilIface => (match zeroA P u with | some z => AM.ret (.tuple [z, .bool false]) | none => AM.bad : AM AV)
        | .iface t v => cond (Nat.beq t u) (.ret (.tuple [v, .bool true])) (match zeroA P u with | some z => AM.ret (.tuple [z, .bool false]) | none => AM.bad)
        | _ => AM.bad) h ≠ .bad → MeetsS P μ h w ((match x with
        | .nilIface => (match zeroA P u with | some z => AM.ret (.tuple [z, .bool false]) | none => AM.bad : AM AV)
        | .iface t v => cond (Nat.beq t u) (.ret (.tuple [v, .bool true])) (match zeroA P u with | some z => AM.ret (.tuple [z, .bool false]) | none => AM.bad)
        | _ => AM.bad) h) (Instr.typeAssert x' t u true) := fun hd hb => by
      cases x with
      | nilIface =>
        rw [VRel] at hx; subst hx
        refine zeroTuple_sound (fun v hv => ?_) rfl hb
        simp only [Instr.typeAssert, Sem.run_bind, run_underlying hu, Result.andThen_ok]
        cases d <;> first | exact absurd rfl (hd _) | simp [hv]
      | iface t' v =>
        obtain ⟨v', rfl, hv⟩ := hx
        simp only at hb ⊢
        cases ht : Nat.beq t' u with
        | true =>
          obtain rfl := Nat.eq_of_beq_eq_true ht
          refine MeetsS.same (a := .tuple [v, .bool true]) (v := .tuple #[v', .bool true]) rfl ?_ ⟨_, rfl, ⟨_, _, rfl, hv, ⟨_, _, rfl, rfl, rfl⟩⟩⟩
          simp only [Instr.typeAssert, Sem.run_bind, run_underlying hu, Result.andThen_ok]
          cases d <;> first | exact absurd rfl (hd _) | simp
        | false =>
          rw [ht] at hb
          simp only [cond] at hb ⊢
          have hne : t' ≠ u := Nat.ne_of_beq_eq_false ht
          refine zeroTuple_sound (fun z hz => ?_) rfl hb
          simp only [Instr.typeAssert, Sem.run_bind, run_underlying hu, Result.andThen_ok]
          cases d <;> first | exact absurd rfl (hd _) | simp [hne, hz]
      | _ => exact absurd rfl hb
    rw [hu] at hb
    cases d <;> first | exact absurd rfl hb | exact key (by simp) hb

theorem callA_sound {μ : Inj} {h : AHeap} {w : World} (hr : Rel μ h w) {G : Nat} (hgl : GlobOK G μ) {C : CallOp} (hC : CallOK P G C) {f : AV} {f' : Value} {as : List AV} {vs : Array Value} (hf : VRel μ f f') (ha : VRels μ as vs.toList) (hb : callA C f as h ≠ .bad) :
    Meets P μ h w (callA C f as h) ((do let d ← Deferred.ofValue f' vs; invoke d.target d.args : Sem Next).run P w) := by
  unfold callA at *
  cases f <;> try (exact absurd rfl hb)
  case func fn first captured =>
    cases fn <;> try (exact absurd rfl hb)
    case func g =>
      obtain ⟨a', c', rfl, h1, h2⟩ := hf
      simp only at hb ⊢
      cases hg : Nat.beq g recId with
      | true => rw [hg] at hb; exact absurd rfl hb
      | false =>
        rw [hg] at hb
        simp only [cond] at hb ⊢
        have hne : g ≠ recId := Nat.ne_of_beq_eq_false hg
        have := hC (vs := a' ++ vs ++ c') hne hr hgl (by simpa [Array.toList_append, List.append_assoc] using h1.append (ha.append h2)) hb
        simpa [Deferred.ofValue, invoke] using this

theorem toList_two {α : Type} {ts : Array α} {a b : α} (h : ts.toList = [a, b]) : ts = #[a, b] := Array.toList_inj.1 h
theorem VRels.one {μ : Inj} {a : AV} {l : Array Value} (h : VRels μ [a] l.toList) : ∃ v, l = #[v] ∧ VRel μ a v := by
  obtain ⟨v, vs, e, h1, h2⟩ := h
  rw [VRels] at h2; subst h2
  exact ⟨v, Array.toList_inj.1 e, h1⟩
theorem VRels.two {μ : Inj} {a b : AV} {l : Array Value} (h : VRels μ [a, b] l.toList) : ∃ v u, l = #[v, u] ∧ VRel μ a v ∧ VRel μ b u := by
  obtain ⟨v, vs, e, h1, u, us, e2, h3, h4⟩ := h
  rw [VRels] at h4; subst h4; subst e2
  exact ⟨v, u, Array.toList_inj.1 e, h1, h3⟩

theorem isSrc_spec {t : TypeId} (h : isSrc P t = true) : (∃ x, P.underlying t = some (.slice x)) ∨ P.underlying t = some .string := by
  unfold isSrc at h
  rcases hu : P.underlying t with _ | d
  · rw [hu] at h; cases h
  · rw [hu] at h; cases d <;> simp at h ⊢
theorem elemOfT_spec {t e : TypeId} (h : elemOfT P t = some e) : P.underlying t = some (.slice e) := by
  unfold elemOfT at h
  rcases hu : P.underlying t with _ | d
  · rw [hu] at h; cases h
  · rw [hu] at h; cases d <;> simp at h ⊢; exact h

theorem builtinA_sound {μ : Inj} {h : AHeap} {w : World} (hr : Rel μ h w) {C : CallOp} {b : Builtin} {ts : Array TypeId} {ty : TypeId} {cs : Array Bool} {as : List AV} {vs : Array Value} (ha : VRels μ as vs.toList) (hrec : b = .recover → C recId [] h = .bad)
    (hb : builtinA P C b ts as h ≠ .bad) : Meets P μ h w (builtinA P C b ts as h) ((builtin b ts ty cs vs).run P w) := by
  unfold builtinA at *
  split at hb
  · exact absurd (hrec rfl) hb
  · -- len
    obtain ⟨v, rfl, hv⟩ := ha.one
    rcases ht : ts[0]? with _ | t
    · rw [ht] at hb; exact absurd rfl hb
    · rw [ht] at hb
      exact Meets.ofS hr (lenA_sound hr ht hv hb)
  · -- append
    obtain ⟨v, u, rfl, hv, hu⟩ := ha.two
    rcases hts : ts.toList with _ | ⟨t, _ | ⟨t1, _ | ⟨t2, l⟩⟩⟩ <;> rw [hts] at hb <;> try (exact absurd rfl hb)
    rcases he : elemOfT P t with _ | e
    · simp only at hb
      rw [he] at hb; exact absurd rfl hb
    · simp only at hb ⊢
      rw [he] at hb
      simp only [he] at hb ⊢
      cases hc : (isSrc P t1 && bytesOK P e && Nat.ble 1 (P.cellsOf e) && (zeroCellsA P e).isSome) with
      | false => rw [hc] at hb; exact absurd rfl hb
      | true =>
        rw [hc] at hb
        simp only [cond] at hb ⊢
        simp only [Bool.and_eq_true] at hc
        obtain ⟨⟨⟨c1, c2⟩, c3⟩, c4⟩ := hc
        rcases hz : zeroCellsA P e with _ | zs
        · rw [hz] at c4; cases c4
        · have T : AppT P t t1 e zs := ⟨elemOfT_spec he, isSrc_spec c1, Nat.le_of_ble_eq_true c3, Nat.le_of_ble_eq_true c2, hz⟩
          rw [toList_two hts]
          exact Meets.ofV (apnd_sound hr T hv hu hb)
  · -- copy
    obtain ⟨v, u, rfl, hv, hu⟩ := ha.two
    rcases ht : ts[0]? with _ | t
    · rw [ht] at hb; exact absurd rfl hb
    · rw [ht] at hb
      simp only at hb ⊢
      rcases he : elemOfT P t with _ | e
      · rw [he] at hb; exact absurd rfl hb
      · rw [he] at hb
        rename_i d x
        simp only at hb ⊢
        cases hc : (Nat.ble 1 (P.cellsOf e) && !isStr d) with
        | false => rw [hc] at hb; exact absurd rfl hb
        | true =>
          rw [hc] at hb
          simp only [Bool.and_eq_true] at hc
          exact Meets.ofV (cpy_sound hr (elemOfT_spec he) (Nat.le_of_ble_eq_true hc.1) ht hv hu (fun s e => by subst e; simp [isStr] at hc) hb)
  · -- min
    obtain ⟨v, l', e, hv, hl⟩ := ha
    obtain ⟨a, h1, h2⟩ := ofOpt_not_bad hb
    obtain ⟨z, g1, g2⟩ := minA_sound (P := P) (w := w) hv hl h1
    exact Meets.ofV (MeetsV.same hr h2 (by simp only [Builtin.min_, e]; exact g1) g2)
  · -- max
    obtain ⟨v, l', e, hv, hl⟩ := ha
    obtain ⟨a, h1, h2⟩ := ofOpt_not_bad hb
    obtain ⟨z, g1, g2⟩ := maxA_sound (P := P) (w := w) hv hl h1
    exact Meets.ofV (MeetsV.same hr h2 (by simp only [Builtin.max_, e]; exact g1) g2)
  · -- delete
    obtain ⟨v, u, rfl, hv, hu⟩ := ha.two
    rcases ht : ts[0]? with _ | t
    · rw [ht] at hb; exact absurd rfl hb
    · rw [ht] at hb
      exact Meets.ofV (mdelA_sound hr ht hv hu hb)
  · -- clear
    obtain ⟨v, rfl, hv⟩ := ha.one
    rcases ht : ts[0]? with _ | t
    · rw [ht] at hb; exact absurd rfl hb
    · rw [ht] at hb
      exact Meets.ofV (clearA_sound (ty := ty) hr ht hv hb)
  · exact absurd rfl hb

theorem unit2_ok {m : AM Unit} {h : AHeap} (hb : unit2 m h ≠ .bad) : (∃ h', m h = .ok () h' ∧ unit2 m h = .ok undefA h') ∨ (∃ v h', m h = .pan v h') := by
  simp only [unit2, AM.bind] at hb ⊢
  cases hm : m h with
  | ok a h' => exact .inl ⟨h', rfl, by simp [AM.ret]⟩
  | pan v h' => exact .inr ⟨v, h', rfl⟩
  | bad => rw [hm] at hb; exact absurd rfl hb

theorem mupdA_nopan {t : TypeId} {m k v : AV} {h h' : AHeap} {x : AV} : mupdA P t m k v h ≠ .pan x h' := by
  unfold mupdA
  repeat' split
  all_goals first | (intro e; cases e; done) | skip
  all_goals
    cases keyOK P _ k <;> simp only [cond] <;> (intro e; cases e)

set_option maxHeartbeats 4000000 in
theorem aexec_sound {μ : Inj} {h : AHeap} {w : World} (hr : Rel μ h w) {G : Nat} (hgl : GlobOK G μ) {C : CallOp} (hC : CallOK P G C) {ev : Operand → AV} {ρ : Operand → Value} {o : Oper} (hrec : isRec o.op = true → C recId [] h = .bad)
    (he : ∀ x ∈ o.op.operands, VRel μ (ev x) (ρ x)) (hb : aexec P C ev o.op h ≠ .bad) : Meets P μ h w (aexec P C ev o.op h) ((execOp ρ o).run P w) := by
  obtain ⟨dst, op, type, pos, after, guard⟩ := o
  simp only [execOp] at *
  cases op <;> simp only [Op.operands] at he <;> try (exact absurd rfl hb)
  case move x => exact Meets.val hr rfl rfl (he x (by simp))
  case assign x => exact Meets.val hr rfl rfl (he x (by simp))
  case pick c a b =>
    simp only [aexec] at hb ⊢
    have hc := he c (by simp)
    cases hcv : ev c <;> rw [hcv] at hb hc <;> try (exact absurd rfl hb)
    case bool t =>
      rw [VRel] at hc
      cases t with
      | true => exact Meets.val (v := ρ a) hr rfl (by simp [hc, asBool]) (he a (by simp))
      | false => exact Meets.val (v := ρ b) hr rfl (by simp [hc, asBool]) (he b (by simp))
  case alloc t =>
    simp only [aexec] at hb ⊢
    rcases hz : zeroCellsA P t with _ | cs
    · rw [hz] at hb; exact absurd rfl hb
    · rw [hz] at hb; exact Meets.ofN hr (alloc_sound hz hb)
  case box t x =>
    simp only [aexec] at hb ⊢
    rcases hz : (ev x).cells? with _ | cs
    · rw [hz] at hb; exact absurd rfl hb
    · rw [hz] at hb; exact Meets.ofN hr (box_sound (he x (by simp)) hz hb)
  case build t ps =>
    simp only [aexec] at hb ⊢
    obtain ⟨a, h1, h2⟩ := ofOpt_not_bad hb
    obtain ⟨v, g1, g2⟩ := buildA_sound (w := w) (ps' := ps.map fun (i, x) => (i, ρ x)) (by simpa [evParts] using PartsRel.ev (fun x hx => he x (by simpa using hx))) h1
    exact Meets.ofV (MeetsV.same hr h2 g1 g2)
  case buildSlice t n ps =>
    simp only [aexec] at hb ⊢
    exact Meets.ofN hr (buildSliceA_sound (ps' := ps.map fun (i, x) => (i, ρ x)) (by simpa [evParts] using PartsRel.ev (fun x hx => he x (by simpa using hx))) hb)
  case load t a =>
    simp only [aexec] at hb ⊢
    rcases ht : isAggT P t with _ | b
    · rw [ht] at hb; exact absurd rfl hb
    · rw [ht] at hb
      cases b with
      | true =>
        simp only at hb ⊢
        cases hc : Nat.ble 1 (P.cellsOf t) with
        | false => rw [hc] at hb; exact absurd rfl hb
        | true => rw [hc] at hb; exact Meets.ofS hr (ldN_sound hr ht (Nat.le_of_ble_eq_true hc) (he a (by simp)) hb)
      | false => exact Meets.ofS hr (ld_sound hr ht (he a (by simp)) hb)
  case store t a x =>
    simp only [aexec] at hb ⊢
    rcases ht : isAggT P t with _ | b
    · rw [ht] at hb; exact absurd rfl hb
    · rw [ht] at hb
      cases b with
      | true =>
        simp only at hb ⊢
        cases hc : Nat.ble 1 (P.cellsOf t) with
        | false => rw [hc] at hb; exact absurd rfl hb
        | true => rw [hc] at hb; exact Meets.ofU (stN_sound hr (Nat.le_of_ble_eq_true hc) (he a (by simp)) (he x (by simp)) hb)
      | false =>
        simp only at hb ⊢
        cases hc : Nat.beq (P.cellsOf t) 1 with
        | false => rw [hc] at hb; exact absurd rfl hb
        | true => rw [hc] at hb; exact Meets.ofU (st_sound hr (Nat.eq_of_beq_eq_true hc) (he a (by simp)) (he x (by simp)) hb)
  case nilCheck x =>
    simp only [aexec] at hb ⊢
    have hx := he x (by simp)
    cases hv : ev x <;> rw [hv] at hb hx <;> try (exact absurd rfl hb)
    case ptr p =>
      cases p with
      | none => exact absurd rfl hb
      | some l =>
        have hx' := hx
        obtain ⟨C', d, S, h1, h2⟩ := hx
        exact Meets.val (v := ρ x) hr rfl (by rw [h2]; rfl) hx'
    case func fn a b =>
      cases fn <;> try (exact absurd rfl hb)
      case func f =>
        have hx' := hx
        obtain ⟨a', c', h1, h2, h3⟩ := hx
        exact Meets.val (v := ρ x) hr rfl (by rw [h1]; rfl) hx'
  case binOp op t x y ty =>
    simp only [aexec] at hb ⊢
    obtain ⟨a, h1, h2⟩ := ofOpt_not_bad hb
    obtain ⟨z, g1, g2⟩ := binA_sound (w := w) h1 (he x (by simp)) (he y (by simp))
    exact Meets.ofV (MeetsV.same hr h2 g1 g2)
  case unOp op t x =>
    simp only [aexec] at hb ⊢
    obtain ⟨a, h1, h2⟩ := ofOpt_not_bad hb
    obtain ⟨z, g1, g2⟩ := unA_sound (P := P) (w := w) h1 (he x (by simp))
    exact Meets.ofV (MeetsV.same hr h2 g1 g2)
  case convert s d x =>
    simp only [aexec] at hb ⊢
    exact Meets.ofV ((convA_sound (fun _ => hr) (he x (by simp)) hb).1 hr)
  case makeInterface t x =>
    simp only [aexec] at hb ⊢
    rcases hu : P.underlying t with _ | d
    · rw [hu] at hb; exact absurd rfl hb
    · rw [hu] at hb
      have hx := he x (by simp)
      have key : (∀ m, d ≠ .interface m) → Meets P μ h w (.ok (.iface t (ev x)) h) ((do pure (.value (← Instr.makeInterface t (ρ x))) : Sem Next).run P w) := fun hd =>
        Meets.val (v := .iface t (ρ x)) hr rfl (by simp only [Instr.makeInterface, Sem.run_bind, run_underlying hu, Result.andThen_ok]; cases d <;> first | exact absurd rfl (hd _) | rfl) ⟨_, rfl, hx⟩
      cases d <;> first | exact absurd rfl hb | exact key (by simp)
  case makeFunc fn first captured =>
    refine Meets.val (v := .func fn (first.map ρ) (captured.map ρ)) hr rfl rfl ⟨_, _, rfl, ?_, ?_⟩
    · simpa using VRels.map_ev (l := first.toList) (fun x hx => he x (by simp at hx ⊢; exact .inl hx))
    · simpa using VRels.map_ev (l := captured.toList) (fun x hx => he x (by simp at hx ⊢; exact .inr hx))
  case makeMap t r =>
    cases r with
    | some r => exact absurd rfl hb
    | none => exact Meets.ofN hr nwMap_sound
  case makeSlice t l c =>
    simp only [aexec] at hb ⊢
    exact Meets.ofN hr (makeSliceA_sound (he l (by simp)) (he c (by simp)) hb)
  case slice t x lo hi mx =>
    simp only [aexec] at hb ⊢
    exact Meets.ofS hr (sliceA_sound hr (he x (by simp)) (ORel.opt fun y hy => he y (by cases hy; simp)) (ORel.opt fun y hy => he y (by cases hy; simp)) (ORel.opt fun y hy => he y (by cases hy; simp)) hb)
  case fieldAddr s x f =>
    simp only [aexec] at hb ⊢
    exact Meets.ofS hr (fieldAddr_sound (he x (by simp)) hb)
  case field t x f =>
    simp only [aexec] at hb ⊢
    exact Meets.ofS hr (fieldA_sound (he x (by simp)) hb)
  case indexAddr t x i =>
    simp only [aexec] at hb ⊢
    exact Meets.ofS hr (indexAddr_sound (he x (by simp)) (he i (by simp)) hb)
  case index t x i =>
    simp only [aexec] at hb ⊢
    exact Meets.ofS hr (indexA_sound (he x (by simp)) (he i (by simp)) hb)
  case lookup t x i ok =>
    simp only [aexec] at hb ⊢
    exact Meets.ofS hr (lookA_sound hr (he x (by simp)) (he i (by simp)) hb)
  case mapUpdate t m k x =>
    simp only [aexec] at hb ⊢
    rcases unit2_ok hb with ⟨h', h1, h2⟩ | ⟨v, h', h1⟩
    · obtain ⟨w', g1, g2, g3⟩ := mupdA_sound hr (he m (by simp)) (he k (by simp)) (he x (by simp)) h1
      exact Meets.ofU ⟨h', μ, w', h2, g1, g2, g3⟩
    · exact absurd h1 mupdA_nopan
  case typeAssert x t u ok =>
    cases ok with
    | false => exact absurd rfl hb
    | true => exact Meets.ofS hr (assertA_sound (he x (by simp)) hb)
  case extract t i =>
    simp only [aexec] at hb ⊢
    have ht := he t (by simp)
    cases hv : ev t <;> rw [hv] at hb ht <;> try (exact absurd rfl hb)
    case tuple vs =>
      simp only at hb ⊢
      rcases hi : vs[i]? with _ | v
      · rw [hi] at hb; exact absurd rfl hb
      · obtain ⟨a, h1, h2⟩ := ht
        obtain ⟨v', h3, h4⟩ := h2.get hi
        exact Meets.val (v := v') hr rfl (by have h3' : a[i]? = some v' := by simpa using h3
                                             simp [h1, Instr.extract, h3']) h4
  case call c =>
    simp only [aexec] at hb ⊢
    simp only [Call.operands] at he
    cases hcal : c.callee with
    | value f =>
      rw [hcal] at hb he
      have := callA_sound hr hgl hC (vs := c.args.map ρ) (he f (by simp)) (by simpa using VRels.map_ev (l := c.args.toList) (fun x hx => he x (by simp at hx ⊢; exact .inr hx))) hb
      simpa [resolve, hcal] using this
    | builtin b =>
      rw [hcal] at hb he
      have := fun cs => builtinA_sound (P := P) (ty := type) (cs := cs) (vs := c.args.map ρ) hr (by simpa using VRels.map_ev (l := c.args.toList) (fun x hx => he x (by simp at hx ⊢; exact hx))) (fun e => hrec (by simp [isRec, hcal, e])) hb
      simp only [resolve, hcal, invoke, Sem.run_bind, Sem.run_pure, Result.andThen_ok]
      exact this _
    | invoke _ _ => rw [hcal] at hb; exact absurd rfl hb
  case panic x =>
    simp only [aexec] at hb ⊢
    have hx := he x (by simp)
    cases hv : ev x <;> rw [hv] at hb hx <;> try (exact absurd rfl hb)
    case iface t v =>
      have hx' := hx
      obtain ⟨u, h1, h2⟩ := hx
      have : (do pure (.value (← Instr.panic (ρ x))) : Sem Next).run P w = .halt (.panic (ρ x)) w := by
        rw [h1]; simp [Instr.panic, goPanic, Sem.run]
      rw [this]
      exact ⟨.iface t v, h, μ, rfl, hr, Ext.refl, hx'⟩
end Go.Am
/- The abstract machine against the model: rows of operations, and code. -/
namespace Go.Am

variable {P : Program}

abbrev EnvRel (μ : Inj) (env : List AV) (a : Act) : Prop := VRels μ env a.tmps.toList
def glob (G : Nat) : Operand → Bool
  | .global g => Nat.blt g G
  | _ => true

structure Keeps (ws : List Nat) (a a' : Act) : Prop where
  size : a'.tmps.size = a.tmps.size
  off : ∀ t, t ∉ ws → a'.tmps[t]? = a.tmps[t]?
  defers : a'.defers = a.defers
theorem Keeps.refl (ws : List Nat) (a : Act) : Keeps ws a a := ⟨rfl, fun _ _ => rfl, rfl⟩
theorem Keeps.mono {ws ws' : List Nat} {a a' : Act} (h : Keeps ws a a') (hs : ∀ t, t ∈ ws → t ∈ ws') : Keeps ws' a a' := ⟨h.size, fun t ht => h.off t fun h' => ht (hs t h'), h.defers⟩
theorem Keeps.trans {ws : List Nat} {a a' a'' : Act} (h : Keeps ws a a') (h' : Keeps ws a' a'') : Keeps ws a a'' := ⟨h'.size.trans h.size, fun t ht => (h'.off t ht).trans (h.off t ht), h'.defers.trans h.defers⟩
theorem Keeps.put {ws : List Nat} {a : Act} {d : Option Tmp} (v : Value) (h : ∀ t, d = some t → t ∈ ws) : Keeps ws a (a.put d v) := by
  cases d with
  | none => exact Keeps.refl _ _
  | some d =>
    refine ⟨by simp [Act.put], fun t ht => ?_, rfl⟩
    have hne : d ≠ t := fun e => ht (e ▸ h d rfl)
    simp [Act.put, Array.getElem?_setIfInBounds_ne hne]

/- ### environments -/
theorem EnvRel.getD {μ : Inj} {env : List AV} {a : Act} (h : EnvRel μ env a) (t : Nat) : VRel μ (env.getD t undefA) (a.tmps.getD t undef) := by
  have hl := h.length
  rcases Nat.lt_or_ge t env.length with h1 | h1
  · obtain ⟨v, hv, hr⟩ := h.get (List.getElem?_eq_getElem h1)
    rw [List.getD_eq_getElem?_getD, List.getElem?_eq_getElem h1]
    have : a.tmps[t]? = some v := by simpa using hv
    rw [Array.getD_eq_getD_getElem?, this]
    exact hr
  · rw [List.getD_eq_getElem?_getD, List.getElem?_eq_none h1, Array.getD_eq_getD_getElem?, Array.getElem?_eq_none (by simp at hl; omega)]
    exact undef_rel μ
theorem VRels.set {μ : Inj} {a : AV} {v : Value} (hv : VRel μ a v) : ∀ {as : List AV} {vs : List Value} (i : Nat), VRels μ as vs → VRels μ (as.set i a) (vs.set i v)
  | [], vs, i, h => by rw [VRels] at h; subst h; simp [VRels]
  | x :: as, _, 0, h => by obtain ⟨y, ys, rfl, h1, h2⟩ := h; exact ⟨_, _, rfl, hv, h2⟩
  | x :: as, _, i + 1, h => by obtain ⟨y, ys, rfl, h1, h2⟩ := h; exact ⟨_, _, rfl, h1, h2.set hv i⟩
theorem EnvRel.put {μ : Inj} {env : List AV} {a : Act} {x : AV} {v : Value} (h : EnvRel μ env a) (d : Option Tmp) (hv : VRel μ x v) : EnvRel μ (putA env d x) (a.put d v) := by
  cases d with
  | none => exact h
  | some d => simpa [EnvRel, putA, Act.put] using h.set hv d
theorem EnvRel.clear {μ : Inj} : ∀ {l : List Nat} {env : List AV} {a a' : Act}, EnvRel μ env a → Keeps l a a' → EnvRel μ (clearL env l) a'
  | [], env, a, a', h, hk => by
    have : a'.tmps = a.tmps := Array.ext_getElem? fun i => hk.off i (by simp)
    simpa [EnvRel, clearL, this] using h
  | t :: l, env, a, a', h, hk => by
    -- a goes to a' by way of t's new value
    let b : Act := { a with tmps := a.tmps.setIfInBounds t (a'.tmps.getD t undef) }
    refine EnvRel.clear (l := l) (env := env.set t .top) (a := b) (by have := VRels.set (a := .top) (v := a'.tmps.getD t undef) (μ := μ) (by simp [VRel]) t h; simpa [EnvRel, b] using this) ⟨by simp [b, hk.size], fun s hs => ?_, hk.defers⟩
    by_cases e : s = t
    · subst e
      simp only [b, Array.getElem?_setIfInBounds]
      rcases Nat.lt_or_ge s a.tmps.size with h1 | h1
      · have h2 : s < a'.tmps.size := by rw [hk.size]; exact h1
        simp [h1, Array.getD_eq_getD_getElem?, Array.getElem?_eq_getElem h2]
      · have h2 : a'.tmps.size ≤ s := by rw [hk.size]; exact h1
        simp [Nat.not_lt.2 h1, Array.getElem?_eq_none h2]
    · rw [hk.off s (by simp [hs, e])]
      simp only [b]
      rw [Array.getElem?_setIfInBounds_ne (Ne.symm e)]
theorem EnvRel.setL {μ : Inj} {a : Act} {vs : List AV} : ∀ {ts : List Nat} {env : List AV} {k : Nat}, EnvRel μ env a → (∀ j, (hj : j < ts.length) → VRel μ (vs.getD (k + j) .top) (a.tmps.getD ts[j] undef)) → EnvRel μ (setL env vs ts k) a
  | [], _, _, h, _ => h
  | t :: ts, env, k, h, hv => by
    refine EnvRel.setL (k := k + 1) ?_ fun j hj => by have := hv (j + 1) (by simpa using hj); simpa [Nat.add_assoc, Nat.add_comm 1 j] using this
    have h0 := hv 0 (by simp)
    have := VRels.set (a := vs.getD k .top) (v := a.tmps.getD t undef) h0 t h
    have hself : a.tmps.toList.set t (a.tmps.getD t undef) = a.tmps.toList := by
      apply List.ext_getElem?
      intro i
      rw [List.getElem?_set]
      split
      · rename_i e; subst e
        split
        · rename_i h1
          simp at h1
          simp [Array.getD_eq_getD_getElem?, Array.getElem?_eq_getElem h1]
        · rename_i h1
          simp at h1
          simp [Array.getElem?_eq_none h1]
      · rfl
    rw [hself] at this
    exact this
theorem EnvRel.restore {μ : Inj} {a a' : Act} {env env' : List AV} {w ts : List Nat} (h : EnvRel μ env a) (hk : Keeps w a a') (h' : EnvRel μ env' a') : EnvRel μ (restore env w ts (pickL env' ts)) a' := by
  refine EnvRel.setL (EnvRel.clear h hk) fun j hj => ?_
  have : (pickL env' ts).getD (0 + j) .top = env'.getD ts[j] undefA := by simp [pickL, List.getD_eq_getElem?_getD, hj]
  rw [this]
  exact h'.getD _

theorem eval_rel {μ : Inj} {env : List AV} {a : Act} {G : Nat} (h : EnvRel μ env a) (hg : GlobOK G μ) {x : Operand} (hx : glob G x = true) : VRel μ (evalO env x) (a.eval x) := by
  cases x with
  | tmp t => exact h.getD t
  | const v => exact absV_rel μ v
  | global g =>
    obtain ⟨S, e⟩ := hg g (by simpa [glob, Nat.blt_eq] using hx)
    exact ⟨g, 0, S, e, rfl⟩
  | func f => exact ⟨_, _, rfl, rfl, rfl⟩

/- ### what the proof asks of an operation -/
def operOK (G : Nat) (o : Oper) : Bool := o.op.operands.toList.all (glob G)

theorem wanted_sound {μ : Inj} {ops : Array Oper} {env : List AV} {a : Act} {o : Oper} {b : Bool} (he : EnvRel μ env a) (h : wantA ops env o = some b) : Region.wanted o (yielded ops a.tmps) = b := by
  unfold wantA at h
  unfold Region.wanted
  cases hg : o.guard with
  | none => rw [hg] at h; simpa using h
  | some g =>
    obtain ⟨j, want⟩ := g
    rw [hg] at h
    simp only at h ⊢
    unfold yielded
    rcases ho : ops[j]? with _ | oj
    · rw [ho] at h; simp at h; subst h; simp
    · rw [ho] at h
      simp only at h
      rcases hd : oj.dst with _ | d
      · rw [hd] at h; simp at h; subst h; simp [hd]
      · rw [hd] at h
        simp only at h
        have hl := VRels.length he
        have hv := he.getD d
        rw [Array.getD_eq_getD_getElem?] at hv
        split at h
        · rename_i t e
          simp at h
          rw [e, VRel] at hv
          rcases hq : a.tmps[d]? with _ | v
          · rw [hq] at hv; simp [undef] at hv
          · rw [hq] at hv; simp at hv; subst hv; simp [hd, hq, ← h]
        · rename_i e
          simp at h; subst h
          rw [e] at hv
          obtain ⟨x, hx, hx2⟩ := hv
          rcases hq : a.tmps[d]? with _ | v
          · simp [hd, hq]
          · rw [hq] at hx; simp at hx; subst hx; simp [hd, hq]
        · cases h

/-- One operation of a row. -/
theorem opA_sound {μ : Inj} {h : AHeap} {w : World} {G : Nat} (hr : Rel μ h w) (hgl : GlobOK G μ) {C : CallOp} (hC : CallOK P G C) (hrec : C recId [] h = .bad) {ops : Array Oper} {env : List AV} {a : Act} (he : EnvRel μ env a) {o : Oper} (hok : operOK G o = true)
    (hb : opA P C ops env o h ≠ .bad) :
    (Region.wanted o (yielded ops a.tmps) = true ∧ Meets P μ h w (opA P C ops env o h) ((execOp a.eval o).run P w)) ∨ (Region.wanted o (yielded ops a.tmps) = false ∧ opA P C ops env o h = .ok undefA h) := by
  have hev : ∀ x ∈ o.op.operands, VRel μ (evalO env x) (a.eval x) := fun x hx => eval_rel he hgl (List.all_eq_true.1 hok x (by simpa using hx))
  unfold opA at *
  cases hg : o.guard with
  | none =>
    rw [hg] at hb
    simp only at hb ⊢
    exact .inl ⟨by simp [Region.wanted, hg], aexec_sound hr hgl hC (fun _ => hrec) hev hb⟩
  | some g =>
    rw [hg] at hb
    simp only at hb ⊢
    rcases hw : wantA ops env o with _ | b
    · rw [hw] at hb; exact absurd rfl hb
    · rw [hw] at hb
      have := wanted_sound he hw
      cases b with
      | true => exact .inl ⟨this, aexec_sound hr hgl hC (fun _ => hrec) hev hb⟩
      | false => exact .inr ⟨this, rfl⟩

theorem bind_ok {α β : Type} {m : AM α} {f : α → AM β} {h h' : AHeap} {a : α} (e : m h = .ok a h') : AM.bind m f h = f a h' := by simp [AM.bind, e]
theorem bind_pan {α β : Type} {m : AM α} {f : α → AM β} {h h' : AHeap} {v : AV} (e : m h = .pan v h') : AM.bind m f h = .pan v h' := by simp [AM.bind, e]
theorem bind_bad {α β : Type} {m : AM α} {f : α → AM β} {h : AHeap} (e : m h = .bad) : AM.bind m f h = .bad := by simp [AM.bind, e]

/-- what goes on, and what a panic leaves -/
structure Post (β : Type) (μ : Inj) (h : AHeap) (w : World) (a : Act) (ws : List Nat) (r : Res β) (Kn : List AV → AHeap → Prop) (Q : Act → World → Prop) (Qp : Value → Act → World → Prop) : Prop where
  go : ∀ μ' env' h' a' w', EnvRel μ' env' a' → Rel μ' h' w' → Ext μ h w μ' h' w' → Keeps ws a a' → Kn env' h' → Q a' w'
  pan : ∀ μ' x v h' a' w', r = .pan x h' → Rel μ' h' w' → Ext μ h w μ' h' w' → Keeps ws a a' → VRel μ' x v → Qp v a' w'

theorem evalOps_sound {G : Nat} {C : CallOp} (hC : CallOK P G C) (hrec : ∀ h, C recId [] h = .bad) {ops : Array Oper} (hok : ∀ o ∈ ops.toList, operOK G o = true) {β : Type} {K : List AV → AM β} {r : Res β} (hbad : r ≠ .bad)
    {Q : Exit → Act → World → Prop} : ∀ (l : List Nat) (env : List AV) (μ : Inj) (h : AHeap) (w : World) (a : Act), EnvRel μ env a → Rel μ h w → GlobOK G μ → evalOps P C ops l env K h = r →
    Post β μ h w a (wrOps ops.toList) r (fun env' h' => K env' h' = r) (Q .normal) (fun v => Q (.panic [{ v, recovered := false }])) → wpOps P ops Q l a w
  | [], env, μ, h, w, a, he, hr, hg, e, hp => hp.go μ env h a w he hr Ext.refl (Keeps.refl _ _) e
  | i :: l, env, μ, h, w, a, he, hr, hg, e, hp => by
    simp only [evalOps] at e
    simp only [wpOps]
    rcases ho : ops[i]? with _ | o
    · rw [ho] at e; exact absurd e.symm hbad
    · rw [ho] at e
      simp only at e ⊢
      have hmem : o ∈ ops.toList := by simpa using Array.mem_of_getElem? ho
      have hdst : ∀ t, o.dst = some t → t ∈ wrOps ops.toList := by
        intro t ht
        have : ∀ l : List Oper, o ∈ l → t ∈ wrOps l := by
          intro l
          induction l with
          | nil => intro h; cases h
          | cons x l ih =>
            intro h
            cases h with
            | head => simp [wrOps, ht]
            | tail _ h => simp only [wrOps]; split <;> simp [ih h]
        exact this _ hmem
      have hnb : opA P C ops env o h ≠ .bad := fun e' => hbad (by rw [← e, bind_bad e'])
      have next : ∀ μ' h' w' x v, Rel μ' h' w' → Ext μ h w μ' h' w' → VRel μ' x v → opA P C ops env o h = .ok x h' → wpOps P ops Q l (a.put o.dst v) w' := fun μ' h' w' x v hr' hx hv e' => by
        rw [bind_ok e'] at e
        refine evalOps_sound hC hrec hok hbad l _ μ' h' w' _ (EnvRel.put (VRels.mono hx.sub _ _ he) o.dst hv) hr' (hg.mono hx.sub) e ⟨?_, ?_⟩
        · exact fun μ2 env2 h2 a2 w2 q1 q2 q3 q4 q5 => hp.go μ2 env2 h2 a2 w2 q1 q2 (Ext.trans hr' hx q3) ((Keeps.put v hdst).trans q4) q5
        · exact fun μ2 x2 v2 h2 a2 w2 q1 q2 q3 q4 q5 => hp.pan μ2 x2 v2 h2 a2 w2 q1 q2 (Ext.trans hr' hx q3) ((Keeps.put v hdst).trans q4) q5
      rcases opA_sound hr hg hC (hrec h) he (hok o hmem) hnb with ⟨hw, hm⟩ | ⟨hw, hs⟩
      · rw [if_pos hw]
        refine .inl (Upon.oper hm ?_ ?_)
        · rintro v w' ⟨x, h', μ', e1, e2, e3, e4⟩
          exact next μ' h' w' x v e2 e3 e4 e1
        · rintro v w' ⟨x, h', μ', e1, e2, e3, e4⟩
          rw [bind_pan e1] at e
          exact hp.pan μ' x v h' a w' e.symm e2 e3 (Keeps.refl _ _) e4
      · rw [if_neg (by simp [hw])]
        exact next μ h w undefA undef hr Ext.refl (undef_rel μ) hs
end Go.Am
/- The abstract machine: the light operations. -/
namespace Go.Am

variable {P : Program}

/- ### what the abstract machine does at them -/
def PureV (m : AM AV) : Prop := m = AM.bad ∨ ∃ v, m = AM.ret v
def ReadV (m : AM AV) : Prop := ∀ h, m h = .bad ∨ ∃ v, m h = .ok v h
def FreshObj (b : Nat) (o : AObj) (fl : Bool) : Prop := (fl = false ∧ ((∃ cs, o = .solo cs) ∨ ∃ es, o = .map es)) ∨ (fl = true ∧ ∃ cs, o = .row cs b 0)
def NewV (m : AM AV) : Prop := PureV m ∨ ∃ (o : Nat → AObj) (v : Nat → AV) (fl : Bool), (∀ n, FreshObj n (o n) fl) ∧ ∀ h, m h = .ok (v h.next) (newBlk h (o h.next) fl)

theorem PureV.bad : PureV AM.bad := .inl rfl
theorem PureV.ret (v : AV) : PureV (AM.ret v) := .inr ⟨v, rfl⟩
theorem PureV.opt (a : Option AV) : PureV (ofOpt a) := by cases a <;> first | exact .bad | exact .ret _
theorem PureV.cond {b : Bool} {m m' : AM AV} (h : PureV m) (h' : PureV m') : PureV (cond b m m') := by cases b <;> assumption
theorem PureV.read {m : AM AV} (h : PureV m) : ReadV m := fun hp => by
  rcases h with rfl | ⟨v, rfl⟩
  · exact .inl rfl
  · exact .inr ⟨v, rfl⟩
theorem ReadV.cond {b : Bool} {m m' : AM AV} (h : ReadV m) (h' : ReadV m') : ReadV (cond b m m') := by cases b <;> assumption
theorem ReadV.bad : ReadV AM.bad := PureV.bad.read
theorem NewV.cond {b : Bool} {m m' : AM AV} (h : NewV m) (h' : NewV m') : NewV (cond b m m') := by cases b <;> assumption
theorem NewV.bad : NewV AM.bad := .inl PureV.bad

theorem pure_faddr (k : Nat) (a : AV) : PureV (faddr k a) := by unfold faddr; split <;> first | exact .bad | exact .ret _
theorem pure_fieldAddr (s : TypeId) (a : AV) (f : Nat) : PureV (fieldAddrA P s a f) := by
  unfold fieldAddrA; repeat' split
  all_goals first | exact .bad | exact .cond (pure_faddr _ _) .bad
theorem pure_iaddrS (n : Nat) (a i : AV) : PureV (iaddrS n a i) := by unfold iaddrS; split <;> first | exact .bad | exact .cond (.ret _) .bad
theorem pure_iaddrA (l n : Nat) (a i : AV) : PureV (iaddrA l n a i) := by unfold iaddrA; split <;> first | exact .bad | exact .cond (.ret _) .bad
theorem pure_indexAddr (t : TypeId) (a i : AV) : PureV (indexAddrA P t a i) := by
  unfold indexAddrA; repeat' split
  all_goals first | exact .bad | exact .cond (pure_iaddrS _ _ _) .bad | exact .cond (pure_iaddrA _ _ _ _) .bad
theorem pure_part (t : TypeId) (o : Nat) (x : AV) : PureV (partA P t o x) := by
  unfold partA partN part1; repeat' split
  all_goals first | exact .bad | exact .ret _ | exact .cond (.ret _) .bad | exact .cond .bad .bad
theorem pure_sIdx (a i : AV) : PureV (sIdx a i) := by
  unfold sIdx; repeat' split
  all_goals first | exact .bad | exact .ret _
theorem pure_index (t : TypeId) (a i : AV) : PureV (indexA P t a i) := by
  unfold indexA; repeat' split
  all_goals first | exact .bad | exact pure_sIdx _ _ | exact .cond (pure_part _ _ _) .bad
theorem pure_field (t : TypeId) (a : AV) (f : Nat) : PureV (fieldA P t a f) := by
  unfold fieldA; repeat' split
  all_goals first | exact .bad | exact pure_part _ _ _
theorem pure_assert (a : AV) (t : TypeId) : PureV (assertA P a t) := by
  unfold assertA; repeat' split
  all_goals first | exact .bad | exact .ret _ | (refine .cond (.ret _) ?_; first | exact .bad | exact .ret _)

theorem pure_sliceStr (s : List UInt8) (lo hi : Option AV) : PureV (sliceStr s lo hi) := by unfold sliceStr; split <;> first | exact .bad | exact .cond (.ret _) .bad
theorem pure_sliceSl (x : AV) (lo hi mx : Option AV) : PureV (sliceSl x lo hi mx) := by
  unfold sliceSl; repeat' split
  all_goals first | exact .bad | exact .ret _ | (refine .cond ?_ .bad; first | exact .ret _ | exact .bad)
theorem read_sliceArr (n es : Nat) (x : AV) (lo hi : Option AV) : ReadV (sliceArr n es x lo hi) := fun h => by
  unfold sliceArr; repeat' split
  all_goals first | exact .inl rfl | skip
  all_goals
    rename_i a b c d
    cases (Nat.ble _ _ && Nat.ble _ _)
    · exact .inl rfl
    · first | exact .inr ⟨_, rfl⟩ | exact .inl rfl
theorem read_slice (t : TypeId) (x : AV) (lo hi mx : Option AV) : ReadV (sliceA P t x lo hi mx) := by
  unfold sliceA; repeat' split
  all_goals first | exact .bad | exact (pure_sliceStr _ _ _).read | exact .cond .bad (.cond (pure_sliceSl _ _ _ _).read .bad) | exact .cond (read_sliceArr _ _ _ _ _) .bad
theorem read_ld (a : AV) : ReadV (ld a) := fun h => by
  unfold ld; repeat' split
  all_goals first | exact .inl rfl | exact .inr ⟨_, rfl⟩
theorem read_ldN (n : Nat) (a : AV) : ReadV (ldN n a) := fun h => by
  unfold ldN; repeat' split
  all_goals first | exact .inl rfl | exact .inr ⟨_, rfl⟩
theorem read_toStr (a : AV) : ReadV (toStr a) := fun h => by
  unfold toStr; repeat' split
  all_goals first | exact .inl rfl | exact .inr ⟨_, rfl⟩
theorem read_look (t : TypeId) (x k : AV) (ok : Bool) : ReadV (lookA P t x k ok) := fun h => by
  unfold lookA; repeat' split
  all_goals first | exact .inl rfl | skip
  all_goals
    cases keyOK P _ _
    · exact .inl rfl
    · first | exact .inr ⟨_, rfl⟩ | exact .inl rfl
theorem read_len (t : TypeId) (x : AV) : ReadV (lenA P t x) := fun h => by
  unfold lenA; repeat' split
  all_goals first | exact .inl rfl | exact .inr ⟨_, rfl⟩
theorem new_nw (cs : List AV) : NewV (nw cs) := by
  unfold nw
  cases hc : cs.all AV.isCell with
  | false => exact .inl (.inl rfl)
  | true => exact .inr ⟨fun _ => .solo cs, fun n => .ptr (some ⟨n, 0⟩), false, fun _ => .inl ⟨rfl, .inl ⟨_, rfl⟩⟩, fun _ => rfl⟩
theorem new_nwRow (cs : List AV) (n es : Nat) : NewV (nwRow cs n es) := by
  unfold nwRow
  cases hc : (cs.all AV.isCell && Nat.ble (n * es) cs.length && Nat.ble 1 es) with
  | false => exact .inl (.inl rfl)
  | true => exact .inr ⟨fun b => .row cs b 0, fun b => .sl b 0 n es, true, fun _ => .inr ⟨rfl, _, rfl⟩, fun _ => rfl⟩
theorem new_nwMap : NewV nwMap := .inr ⟨fun _ => .map [], fun b => .map (some b), false, fun _ => .inl ⟨rfl, .inr ⟨_, rfl⟩⟩, fun _ => rfl⟩
theorem new_buildSlice (t : TypeId) (n : Nat) (ps : List (Nat × AV)) : NewV (buildSliceA P t n ps) := by
  unfold buildSliceA; repeat' split
  all_goals first | exact .bad | (refine .cond ?_ .bad; first | exact .bad | exact .inl (.ret _) | exact new_nwRow _ _ _)
theorem new_makeSlice (t : TypeId) (l c : AV) : NewV (makeSliceA P t l c) := by
  unfold makeSliceA; repeat' split
  all_goals first | exact .bad | (refine .cond ?_ .bad; first | exact .bad | exact .inl (.ret _) | exact new_nwRow _ _ _)

theorem pure_conv {s d : TypeId} {a : AV} (h : clsConv P s d = 0) : PureV (convA P s d a) := by
  unfold clsConv at h
  unfold convA
  rcases hs : P.underlying s with _ | ds
  · cases a <;> simp only <;> first | exact .bad | (rcases hd : P.underlying d with _ | dd <;> exact .bad)
  · rcases hd : P.underlying d with _ | dd
    · cases a <;> simp only <;> first | exact .bad | (cases ds <;> exact .bad)
    · rw [hs, hd] at h
      cases a <;> cases dd <;> simp only <;> (try (cases ds <;> simp at h)) <;> first | exact .bad | exact .ret _ | (cases ds <;> first | exact .bad | exact .ret _)
theorem read_conv {s d : TypeId} {a : AV} (h : clsConv P s d = 1) : ReadV (convA P s d a) := by
  unfold clsConv at h
  unfold convA
  rcases hs : P.underlying s with _ | ds
  · rw [hs] at h; rcases hd : P.underlying d with _ | dd <;> rw [hd] at h <;> (try cases dd) <;> simp at h
  · rcases hd : P.underlying d with _ | dd
    · cases a <;> simp only <;> first | exact .bad | (cases ds <;> exact .bad)
    · rw [hs, hd] at h
      cases a <;> cases dd <;> simp only <;> (try (cases ds <;> simp at h)) <;> first | exact .bad | exact (PureV.ret _).read | exact .cond (read_toStr _) .bad | (cases ds <;> first | exact .bad | exact (PureV.ret _).read | exact .cond (read_toStr _) .bad)
theorem new_conv {s d : TypeId} {a : AV} (h : clsConv P s d = 2) : NewV (convA P s d a) := by
  unfold clsConv at h
  unfold convA
  rcases hs : P.underlying s with _ | ds
  · rw [hs] at h; rcases hd : P.underlying d with _ | dd <;> rw [hd] at h <;> (try cases dd) <;> simp at h
  · rcases hd : P.underlying d with _ | dd
    · rw [hs, hd] at h; cases ds <;> simp at h
    · rw [hs, hd] at h
      cases ds <;> cases dd <;> simp at h
      cases a <;> simp only <;> first | exact .bad | exact .cond (new_nwRow _ _ _) .bad

theorem aexec_pure {ev : Operand → AV} {op : Op} (hc : cls P op = 0) : (∀ C C', aexec P C ev op = aexec P C' ev op) ∧ ∀ C, PureV (aexec P C ev op) := by
  cases op <;> simp only [cls, reduceCtorEq] at hc <;> try (cases hc; done)
  case convert s d x => exact ⟨fun _ _ => rfl, fun _ => pure_conv hc⟩
  case call c =>
    cases hcal : c.callee with
    | value f => rw [hcal] at hc; cases hc
    | invoke _ _ => rw [hcal] at hc; cases hc
    | builtin b =>
      rw [hcal] at hc
      cases b <;> simp at hc
      case max =>
        refine ⟨fun _ _ => by simp only [aexec, hcal]; rcases c.args.toList.map ev with _ | ⟨x, l⟩ <;> rfl, fun C => ?_⟩
        simp only [aexec, hcal]
        rcases c.args.toList.map ev with _ | ⟨x, l⟩
        · exact .bad
        · exact .opt _
      case min =>
        refine ⟨fun _ _ => by simp only [aexec, hcal]; rcases c.args.toList.map ev with _ | ⟨x, l⟩ <;> rfl, fun C => ?_⟩
        simp only [aexec, hcal]
        rcases c.args.toList.map ev with _ | ⟨x, l⟩
        · exact .bad
        · exact .opt _
  case typeAssert x t u ok => cases ok <;> exact ⟨fun _ _ => rfl, fun C => by first | exact .bad | exact pure_assert _ _⟩
  all_goals refine ⟨fun _ _ => rfl, fun C => ?_⟩
  case move x => exact .ret _
  case assign x => exact .ret _
  case pick c a b => simp only [aexec]; split <;> first | exact .bad | exact .ret _
  case build t ps => exact .opt _
  case nilCheck x => simp only [aexec]; split <;> first | exact .bad | exact .ret _
  case binOp => exact .opt _
  case unOp => exact .opt _
  case makeInterface t x => simp only [aexec]; split <;> first | exact .bad | exact .ret _
  case makeFunc => exact .ret _
  case fieldAddr => exact pure_fieldAddr _ _ _
  case field => exact pure_field _ _ _
  case indexAddr => exact pure_indexAddr _ _ _
  case index => exact pure_index _ _ _
  case extract t i =>
    simp only [aexec]
    cases ev t <;> try (exact .bad)
    case tuple vs => simp only; cases vs[i]? <;> first | exact .bad | exact .ret _

theorem aexec_read {ev : Operand → AV} {op : Op} (hc : cls P op = 1) : (∀ C C', aexec P C ev op = aexec P C' ev op) ∧ ∀ C, ReadV (aexec P C ev op) := by
  cases op <;> simp only [cls, reduceCtorEq] at hc <;> try (cases hc; done)
  case convert s d x => exact ⟨fun _ _ => rfl, fun _ => read_conv hc⟩
  case call c =>
    cases hcal : c.callee with
    | value f => rw [hcal] at hc; cases hc
    | invoke _ _ => rw [hcal] at hc; cases hc
    | builtin b =>
      rw [hcal] at hc
      cases b <;> simp at hc
      case len =>
        refine ⟨fun _ _ => by simp only [aexec, hcal]; rcases c.args.toList.map ev with _ | ⟨x, _ | ⟨y, l⟩⟩ <;> rfl, fun C => ?_⟩
        simp only [aexec, hcal]
        rcases c.args.toList.map ev with _ | ⟨x, _ | ⟨y, l⟩⟩
        · exact .bad
        · simp only [builtinA]; split <;> first | exact .bad | exact read_len _ _
        · exact .bad
  all_goals refine ⟨fun _ _ => rfl, fun C => ?_⟩
  case load t a =>
    simp only [aexec]; repeat' split
    all_goals first | exact .bad | exact .cond (read_ldN _ _) .bad | exact read_ld _
  case slice => exact read_slice _ _ _ _ _
  case lookup => exact read_look _ _ _ _

theorem aexec_new {ev : Operand → AV} {op : Op} (hc : cls P op = 2) : (∀ C C', aexec P C ev op = aexec P C' ev op) ∧ ∀ C, NewV (aexec P C ev op) := by
  cases op <;> simp only [cls, reduceCtorEq] at hc <;> try (cases hc; done)
  case convert s d x => exact ⟨fun _ _ => rfl, fun _ => new_conv hc⟩
  case call c =>
    cases hcal : c.callee with
    | value f => rw [hcal] at hc; cases hc
    | invoke _ _ => rw [hcal] at hc; cases hc
    | builtin b => rw [hcal] at hc; cases b <;> simp at hc
  case alloc t =>
    refine ⟨fun _ _ => rfl, fun C => ?_⟩
    simp only [aexec]; split <;> first | exact .bad | exact new_nw _
  case box t x =>
    refine ⟨fun _ _ => rfl, fun C => ?_⟩
    simp only [aexec]; split <;> first | exact .bad | exact new_nw _
  case buildSlice => exact ⟨fun _ _ => rfl, fun C => new_buildSlice _ _ _⟩
  case makeMap t r =>
    cases r with
    | none => exact ⟨fun _ _ => rfl, fun C => new_nwMap⟩
    | some r => exact ⟨fun _ _ => rfl, fun C => .bad⟩
  case makeSlice => exact ⟨fun _ _ => rfl, fun C => new_makeSlice _ _ _⟩
end Go.Am
/- The abstract machine against the model: a light operation leaves what was. -/
namespace Go.Am

variable {P : Program}

/-- nothing is changed -/
def LightS (P : Program) (μ : Inj) (h : AHeap) (w : World) (r : Res AV) (s : Sem Next) : Prop := ∃ a v, r = .ok a h ∧ s.run P w = .ok (.value v) w ∧ VRel μ a v
/-- a new block, or garbage -/
def LightN (P : Program) (μ : Inj) (h : AHeap) (w : World) (r : Res AV) (s : Sem Next) : Prop :=
  (∃ a v w', r = .ok a h ∧ s.run P w = .ok (.value v) w' ∧ VRel μ a v ∧ Grown w w') ∨
  ∃ (av : Nat → AV) (v : Value) (w' : World) (o : AObj) (fl : Bool) (x : Obj) (S : Nat), r = .ok (av h.next) (newBlk h o fl) ∧ s.run P w = .ok (.value v) w' ∧ w'.heap = w.heap.push x ∧ w'.os = w.os ∧ w'.output = w.output ∧
    Cont μ h.next o fl x S ∧ ∀ μ' b, μ' b = some (w.heap.size, 0, S) → VRel μ' (av b) v
def Light (P : Program) (k : Nat) (μ : Inj) (h : AHeap) (w : World) (r : Res AV) (s : Sem Next) : Prop := (k ≤ 1 → LightS P μ h w r s) ∧ (k = 2 → LightN P μ h w r s)
theorem Light.ofS {k : Nat} {μ : Inj} {h : AHeap} {w : World} {r : Res AV} {s : Sem Value} (hm : MeetsS P μ h w r s) : Light P k μ h w r (do pure (.value (← s))) := by
  obtain ⟨a, v, e1, e2, e3⟩ := hm
  exact ⟨fun _ => ⟨a, v, e1, by simp [e2], e3⟩, fun _ => .inl ⟨a, v, w, e1, by simp [e2], e3, Grown.refl w⟩⟩
theorem Light.ofN {μ : Inj} {h : AHeap} {w : World} {r : Res AV} {s : Sem Value} (hm : MeetsN P μ h w r s) : Light P 2 μ h w r (do pure (.value (← s))) := by
  refine ⟨fun h => by omega, fun _ => ?_⟩
  rcases hm with ⟨a, v, w', e1, e2, e3⟩ | ⟨av, v, w', o, fl, x, S, e1, e2, e3⟩
  · exact .inl ⟨a, v, w', e1, by simp [e2], e3⟩
  · exact .inr ⟨av, v, w', o, fl, x, S, e1, by simp [e2], e3⟩
theorem Light.val {k : Nat} {μ : Inj} {h : AHeap} {w : World} {r : Res AV} {s : Sem Next} {a : AV} {v : Value} (h1 : r = .ok a h) (h2 : s.run P w = .ok (.value v) w) (h3 : VRel μ a v) : Light P k μ h w r s :=
  ⟨fun _ => ⟨a, v, h1, h2, h3⟩, fun _ => .inl ⟨a, v, w, h1, h2, h3, Grown.refl w⟩⟩

set_option maxHeartbeats 4000000 in
theorem aexec_light {μ : Inj} {h : AHeap} {w : World} {C : CallOp} {ev : Operand → AV} {ρ : Operand → Value} {o : Oper} (hcl : cls P o.op ≠ 3) (hr : cls P o.op = 1 → Rel μ h w)
    (he : ∀ x ∈ o.op.operands, VRel μ (ev x) (ρ x)) (hb : aexec P C ev o.op h ≠ .bad) : Light P (cls P o.op) μ h w (aexec P C ev o.op h) (execOp ρ o) := by
  obtain ⟨dst, op, type, pos, after, guard⟩ := o
  simp only [execOp] at *
  cases op <;> simp only [Op.operands] at he <;> try (exact absurd rfl hcl)
  case move x => exact .val rfl rfl (he x (by simp))
  case assign x => exact .val rfl rfl (he x (by simp))
  case pick c a b =>
    simp only [aexec] at hb ⊢
    have hc := he c (by simp)
    cases hcv : ev c <;> rw [hcv] at hb hc <;> try (exact absurd rfl hb)
    case bool t =>
      rw [VRel] at hc
      cases t with
      | true => exact .val (v := ρ a) rfl (by simp [hc, asBool]) (he a (by simp))
      | false => exact .val (v := ρ b) rfl (by simp [hc, asBool]) (he b (by simp))
  case alloc t =>
    simp only [aexec] at hb ⊢
    rcases hz : zeroCellsA P t with _ | cs
    · rw [hz] at hb; exact absurd rfl hb
    · rw [hz] at hb; exact .ofN (alloc_sound hz hb)
  case box t x =>
    simp only [aexec] at hb ⊢
    rcases hz : (ev x).cells? with _ | cs
    · rw [hz] at hb; exact absurd rfl hb
    · rw [hz] at hb; exact .ofN (box_sound (he x (by simp)) hz hb)
  case build t ps =>
    simp only [aexec] at hb ⊢
    obtain ⟨a, h1, h2⟩ := ofOpt_not_bad hb
    obtain ⟨v, g1, g2⟩ := buildA_sound (w := w) (ps' := ps.map fun (i, x) => (i, ρ x)) (by simpa [evParts] using PartsRel.ev (fun x hx => he x (by simpa using hx))) h1
    exact .ofS (MeetsS.same h2 g1 g2)
  case buildSlice t n ps =>
    simp only [aexec] at hb ⊢
    exact .ofN (buildSliceA_sound (ps' := ps.map fun (i, x) => (i, ρ x)) (by simpa [evParts] using PartsRel.ev (fun x hx => he x (by simpa using hx))) hb)
  case load t a =>
    simp only [aexec] at hb ⊢
    rcases ht : isAggT P t with _ | b
    · rw [ht] at hb; exact absurd rfl hb
    · rw [ht] at hb
      cases b with
      | true =>
        simp only at hb ⊢
        cases hc : Nat.ble 1 (P.cellsOf t) with
        | false => rw [hc] at hb; exact absurd rfl hb
        | true => rw [hc] at hb; exact .ofS (ldN_sound (hr rfl) ht (Nat.le_of_ble_eq_true hc) (he a (by simp)) hb)
      | false => exact .ofS (ld_sound (hr rfl) ht (he a (by simp)) hb)
  case nilCheck x =>
    simp only [aexec] at hb ⊢
    have hx := he x (by simp)
    cases hv : ev x <;> rw [hv] at hb hx <;> try (exact absurd rfl hb)
    case ptr p =>
      cases p with
      | none => exact absurd rfl hb
      | some l =>
        have hx' := hx
        obtain ⟨C', d, S, h1, h2⟩ := hx
        exact .val (v := ρ x) rfl (by rw [h2]; rfl) hx'
    case func fn a b =>
      cases fn <;> try (exact absurd rfl hb)
      case func f =>
        have hx' := hx
        obtain ⟨a', c', h1, h2, h3⟩ := hx
        exact .val (v := ρ x) rfl (by rw [h1]; rfl) hx'
  case binOp op t x y ty =>
    simp only [aexec] at hb ⊢
    obtain ⟨a, h1, h2⟩ := ofOpt_not_bad hb
    obtain ⟨z, g1, g2⟩ := binA_sound (w := w) h1 (he x (by simp)) (he y (by simp))
    exact .ofS (MeetsS.same h2 g1 g2)
  case unOp op t x =>
    simp only [aexec] at hb ⊢
    obtain ⟨a, h1, h2⟩ := ofOpt_not_bad hb
    obtain ⟨z, g1, g2⟩ := unA_sound (P := P) (w := w) h1 (he x (by simp))
    exact .ofS (MeetsS.same h2 g1 g2)
  case convert s d x =>
    simp only [aexec] at hb ⊢
    have hr' : clsConv P s d = 1 ∨ clsConv P s d = 3 → Rel μ h w := fun h => h.elim hr fun h => absurd h hcl
    obtain ⟨_, c2, c3⟩ := convA_sound hr' (he x (by simp)) hb
    refine ⟨fun hk => ?_, fun hk => ?_⟩
    · exact (Light.ofS (k := 0) (c2 hk)).1 (by omega)
    · exact (Light.ofN (c3 hk)).2 rfl
  case makeInterface t x =>
    simp only [aexec] at hb ⊢
    rcases hu : P.underlying t with _ | d
    · rw [hu] at hb; exact absurd rfl hb
    · rw [hu] at hb
      have hx := he x (by simp)
      have key : (∀ m, d ≠ .interface m) → Light P 0 μ h w (.ok (.iface t (ev x)) h) (do pure (.value (← Instr.makeInterface t (ρ x)))) := fun hd =>
        .val (v := .iface t (ρ x)) rfl (by simp only [Instr.makeInterface, Sem.run_bind, run_underlying hu, Result.andThen_ok]; cases d <;> first | exact absurd rfl (hd _) | rfl) ⟨_, rfl, hx⟩
      cases d <;> first | exact absurd rfl hb | exact key (by simp)
  case makeFunc fn first captured =>
    refine .val (v := .func fn (first.map ρ) (captured.map ρ)) rfl rfl ⟨_, _, rfl, ?_, ?_⟩
    · simpa using VRels.map_ev (l := first.toList) (fun x hx => he x (by simp at hx ⊢; exact .inl hx))
    · simpa using VRels.map_ev (l := captured.toList) (fun x hx => he x (by simp at hx ⊢; exact .inr hx))
  case makeMap t r =>
    cases r with
    | some r => exact absurd rfl hb
    | none => exact .ofN nwMap_sound
  case makeSlice t l c =>
    simp only [aexec] at hb ⊢
    exact .ofN (makeSliceA_sound (he l (by simp)) (he c (by simp)) hb)
  case slice t x lo hi mx =>
    simp only [aexec] at hb ⊢
    exact .ofS (sliceA_sound (hr rfl) (he x (by simp)) (ORel.opt fun y hy => he y (by cases hy; simp)) (ORel.opt fun y hy => he y (by cases hy; simp)) (ORel.opt fun y hy => he y (by cases hy; simp)) hb)
  case fieldAddr s x f =>
    simp only [aexec] at hb ⊢
    exact .ofS (fieldAddr_sound (he x (by simp)) hb)
  case field t x f =>
    simp only [aexec] at hb ⊢
    exact .ofS (fieldA_sound (he x (by simp)) hb)
  case indexAddr t x i =>
    simp only [aexec] at hb ⊢
    exact .ofS (indexAddr_sound (he x (by simp)) (he i (by simp)) hb)
  case index t x i =>
    simp only [aexec] at hb ⊢
    exact .ofS (indexA_sound (he x (by simp)) (he i (by simp)) hb)
  case lookup t x i ok =>
    simp only [aexec] at hb ⊢
    exact .ofS (lookA_sound (hr rfl) (he x (by simp)) (he i (by simp)) hb)
  case typeAssert x t u ok =>
    cases ok with
    | false => exact absurd rfl hb
    | true => simp only [aexec] at hb ⊢; exact .ofS (assertA_sound (he x (by simp)) hb)
  case extract t i =>
    simp only [aexec] at hb ⊢
    have ht := he t (by simp)
    cases hv : ev t <;> rw [hv] at hb ht <;> try (exact absurd rfl hb)
    case tuple vs =>
      simp only at hb ⊢
      rcases hi : vs[i]? with _ | v
      · rw [hi] at hb; exact absurd rfl hb
      · obtain ⟨a, h1, h2⟩ := ht
        obtain ⟨v', h3, h4⟩ := h2.get hi
        have h3' : a[i]? = some v' := by simpa using h3
        exact .val (v := v') rfl (by simp [h1, Instr.extract, h3']) h4
  case call c =>
    simp only [aexec] at hb ⊢
    simp only [Call.operands] at he
    cases hcal : c.callee with
    | value f => exact absurd (by simp [cls, hcal]) hcl
    | invoke _ _ => exact absurd (by simp [cls, hcal]) hcl
    | builtin b =>
      rw [hcal] at hb he
      have ha : VRels μ (c.args.toList.map ev) (c.args.map ρ).toList := by simpa using VRels.map_ev (l := c.args.toList) (fun x hx => he x (by simp at hx ⊢; exact hx))
      have key : ∀ {s : Sem Value}, (∀ cs, builtin b c.argTypes type cs (c.args.map ρ) = (do pure (.value (← s)))) → MeetsS P μ h w (builtinA P C b c.argTypes (c.args.toList.map ev) h) s → cls P (.call c) ≤ 1 →
          Light P (cls P (.call c)) μ h w (builtinA P C b c.argTypes (c.args.toList.map ev) h) (do let d ← resolve ρ c type; invoke d.target d.args) := fun {s} e hm hk => by
        obtain ⟨a, v, e1, e2, e3⟩ := (Light.ofS (k := 0) hm).1 (by omega)
        refine ⟨fun _ => ⟨a, v, e1, ?_, e3⟩, fun _ => by omega⟩
        rw [← e2]
        simp only [resolve, hcal, invoke, Sem.run_bind, Sem.run_pure, Result.andThen_ok, e]
      have h3 : cls P (.call c) = (match b with | .len => 1 | .min => 0 | .max => 0 | _ => 3) := by
        simp only [cls, hcal]
        cases b <;> rfl
      cases b <;> first | exact absurd h3 hcl | skip
      case len =>
        refine key (s := Builtin.len_ c.argTypes type (c.args.map ρ)) (fun _ => rfl) ?_ (by simp [cls, hcal])
        unfold builtinA at hb ⊢
        rcases hl : c.args.toList.map ev with _ | ⟨x, _ | ⟨y, l⟩⟩ <;> rw [hl] at hb ha <;> try (exact absurd rfl hb)
        simp only at hb ⊢
        obtain ⟨v, e, hv⟩ := ha.one
        rw [e]
        rcases ht : c.argTypes[0]? with _ | t
        · rw [ht] at hb; exact absurd rfl hb
        · rw [ht] at hb; exact lenA_sound (hr h3) ht hv hb
      case max =>
        refine key (s := Builtin.max_ c.argTypes type (c.args.map ρ)) (fun _ => rfl) ?_ (by simp [cls, hcal])
        unfold builtinA at hb ⊢
        rcases hl : c.args.toList.map ev with _ | ⟨x, l⟩ <;> rw [hl] at hb ha <;> try (exact absurd rfl hb)
        obtain ⟨v, l', e, hv, hl⟩ := ha
        obtain ⟨a, h1, h2⟩ := ofOpt_not_bad hb
        obtain ⟨z, g1, g2⟩ := maxA_sound (P := P) (w := w) hv hl h1
        exact MeetsS.same h2 (by simp only [Builtin.max_, e]; exact g1) g2
      case min =>
        refine key (s := Builtin.min_ c.argTypes type (c.args.map ρ)) (fun _ => rfl) ?_ (by simp [cls, hcal])
        unfold builtinA at hb ⊢
        rcases hl : c.args.toList.map ev with _ | ⟨x, l⟩ <;> rw [hl] at hb ha <;> try (exact absurd rfl hb)
        obtain ⟨v, l', e, hv, hl⟩ := ha
        obtain ⟨a, h1, h2⟩ := ofOpt_not_bad hb
        obtain ⟨z, g1, g2⟩ := minA_sound (P := P) (w := w) hv hl h1
        exact MeetsS.same h2 (by simp only [Builtin.min_, e]; exact g1) g2
end Go.Am
