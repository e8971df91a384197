/- A text of the claim: AmApp, AmOpA, AmOpB, AmOpC, AmOpD, AmOpE. -/
import Derived.Test.YtmgkfcdmpbcmkaaGreatDoorAmA
import Derived.Laws.Entries
import Derived.Laws.BitsLemmas
import Derived.Laws.StructEq
import Derived.Laws.Concat
import Derived.Laws.Cover3
import Derived.Laws.Pointers
import Derived.Laws.Append
/- The abstract machine against the model: a slice that is appended to. -/
namespace Go.Am

theorem Rel.append {μ : Inj} {h : AHeap} {w w' : World} (hr : Rel μ h w) {b C d S f v top lo o m : Nat} {cs cs' : List AV} (hb : μ b = some (C, d, S)) (hob : h.objs.get b = some (.row cs f v))
    (hf : h.fams.get f = some (top, lo)) (hlo : lo ≤ v) {lo' : Nat} (hlo' : lo' = top + 1 ∨ lo' = lo ∧ v = top ∧ o + m = cs.length)
    (hos : w'.os = w.os) (hout : w'.output = w.output) {C' d' S' : Nat}
    (hW : (C' = C ∧ w'.heap.size = w.heap.size ∧ (∀ k, k ≠ C → w'.heap[k]? = w.heap[k]?) ∧ d + o + m ≤ d' + cs'.length ∧
        ∃ c0 c1 e fz, w.heap[C]? = some (.cells c0 e fz) ∧ w'.heap[C]? = some (.cells c1 e fz) ∧ c1.size = c0.size ∧ ∀ j, j < d + o + m → c1[j]? = c0[j]?) ∨
      (C' = w.heap.size ∧ ∃ obj, w'.heap = w.heap.push obj))
    (hc : ∃ c e fz, w'.heap[C']? = some (.cells c e fz) ∧ c.size = S' ∧ d' + cs'.length ≤ S' ∧ CellsRel μ cs' c d' ∧ Warm fz S') :
    Rel (addInj μ h.next (C', d', S')) { next := h.next + 1, objs := h.objs.set h.next (.row cs' f (top + 1)), fams := h.fams.set f (top + 1, lo') } w' ∧
    Ext μ h w (addInj μ h.next (C', d', S')) { next := h.next + 1, objs := h.objs.set h.next (.row cs' f (top + 1)), fams := h.fams.set f (top + 1, lo') } w' := by
  have hle := hr.le_add (C', d', S')
  obtain ⟨hbn, hC, ob, hob', hor⟩ := hr.obj b C d S hb
  rw [hob] at hob'; cases hob'
  obtain ⟨top1, lo1, hf1, ⟨hv, hlt⟩, c0, e0, fz0, g1, g2, g3⟩ := hor
  rw [hf] at hf1; cases hf1
  obtain ⟨g4, g5, g6⟩ := g3 hlo
  have size : w.heap.size ≤ w'.heap.size ∧ C' < w'.heap.size := by
    rcases hW with ⟨rfl, h1, _⟩ | ⟨rfl, obj, h1⟩
    · omega
    · rw [h1]; simp
  have heapne : ∀ k, k < w.heap.size → k ≠ C → w'.heap[k]? = w.heap[k]? := fun k hk hne => by
    rcases hW with ⟨_, _, h1, _⟩ | ⟨_, obj, h1⟩
    · exact h1 k hne
    · exact heap_push_lt h1 hk
  -- the block of b and of its family: what it held below the place of the append, it holds still
  have heapC : ∃ c1, w'.heap[C]? = some (.cells c1 e0 fz0) ∧ c1.size = c0.size ∧ ∀ j, j < d + o + m → c1[j]? = c0[j]? := by
    rcases hW with ⟨_, _, _, _, a0, a1, e, fz, h1, h2, h3, h4⟩ | ⟨_, obj, h1⟩
    · rw [g1] at h1; cases h1; exact ⟨a1, h2, h3, h4⟩
    · exact ⟨c0, by rw [heap_push_lt h1 hC]; exact g1, rfl, fun _ _ => rfl⟩
  have old : ∀ k C1 d1 S1, addInj μ h.next (C', d', S') k = some (C1, d1, S1) → k ≠ h.next → μ k = some (C1, d1, S1) ∧ k < h.next ∧ C1 < w.heap.size := fun k C1 d1 S1 hm hk => by
    rw [addInj_ne _ _ _ _ hk] at hm
    obtain ⟨h1, h2, _⟩ := hr.obj k C1 d1 S1 hm
    exact ⟨hm, h1, h2⟩
  have verle : ∀ k C1 d1 S1 cs1 v1, μ k = some (C1, d1, S1) → h.objs.get k = some (.row cs1 f v1) → v1 ≤ top := fun k C1 d1 S1 cs1 v1 hm hk => by
    obtain ⟨_, _, o1, i3, i4⟩ := hr.obj k C1 d1 S1 hm
    rw [hk] at i3; cases i3
    obtain ⟨t, l, q1, ⟨q2, _⟩, _⟩ := i4
    rw [hf] at q1; cases q1; exact q2
  refine ⟨?_, ?_⟩
  · exact
      { obj := fun k C1 d1 S1 hm1 => by
          by_cases hk : k = h.next
          · subst hk
            rw [addInj_same] at hm1; cases hm1
            obtain ⟨c, e, fz, q1, q2, q3, q4, q5⟩ := hc
            refine ⟨by simp, size.2, _, Tr.get_set_same _ _ _, top + 1, lo', Tr.get_set_same _ _ _, ⟨Nat.le_refl _, ?_⟩, c, e, fz, q1, q2, fun _ => ⟨q3, q4.mono hle, q5⟩⟩
            rcases hlo' with rfl | ⟨rfl, _⟩ <;> omega
          · obtain ⟨hm', h1, h2⟩ := old k C1 d1 S1 hm1 hk
            obtain ⟨_, _, o', i3, i4⟩ := hr.obj k C1 d1 S1 hm'
            refine ⟨by simp; omega, by omega, o', by simp only [Tr.get_set_ne _ _ _ _ hk]; exact i3, ?_⟩
            by_cases hfam : ∃ cs1 v1, o' = .row cs1 f v1
            · obtain ⟨cs1, v1, rfl⟩ := hfam
              obtain ⟨t1, l1, q1, ⟨q2, q2'⟩, c, e, fz, q3, q4, q5⟩ := i4
              rw [hf] at q1; cases q1
              have hcl : ∃ c1, w'.heap[C1]? = some (.cells c1 e fz) ∧ c1.size = c.size ∧ (C1 = C → ∀ j, j < d + o + m → c1[j]? = c[j]?) ∧ (C1 ≠ C → c1 = c) := by
                by_cases hCC : C1 = C
                · subst hCC
                  rw [g1] at q3; cases q3
                  obtain ⟨c1, z1, z2, z3⟩ := heapC
                  exact ⟨c1, z1, z2, fun _ => z3, fun h => absurd rfl h⟩
                · exact ⟨c, by rw [heapne C1 h2 hCC]; exact q3, rfl, fun h => absurd h hCC, fun _ => rfl⟩
              obtain ⟨c1, z1, z2, z3, z4⟩ := hcl
              refine ⟨top + 1, lo', Tr.get_set_same _ _ _, ⟨by omega, by rcases hlo' with rfl | ⟨rfl, _⟩ <;> omega⟩, c1, e, fz, z1, by omega, fun hval => ?_⟩
              rcases hlo' with rfl | ⟨rfl, rfl, hend⟩
              · omega
              · obtain ⟨y1, y2, y3⟩ := q5 hval
                refine ⟨y1, ?_, y3⟩
                by_cases hCC : C1 = C
                · subst hCC
                  have hord := hr.ord k b C1 d1 S1 d S cs1 cs f v1 v v lo' hm' hb i3 hob hf hval q2
                  intro i x hx
                  obtain ⟨u, hu, hru⟩ := y2 i x hx
                  have hi := (List.getElem?_eq_some_iff.1 hx).1
                  exact ⟨u, by rw [z3 rfl _ (by omega)]; exact hu, hru.mono hle⟩
                · rw [z4 hCC]; exact y2.mono hle
            · have hCC : C1 ≠ C := fun e' => by
                subst e'
                rcases hr.sep k b C1 d1 S1 d S o' _ hm' hb i3 hob with rfl | hs
                · rw [hob] at i3; cases i3; exact hfam ⟨_, _, rfl⟩
                · cases o' <;> simp [SepOK] at hs
                  case row cs1 f1 v1 => subst hs; exact hfam ⟨_, _, rfl⟩
              refine ObjRel.congr (h := h) (w := w) (heapne C1 h2 hCC) (fun g hg => ?_) (i4.mono hle)
              refine Tr.get_set_ne _ _ _ _ (fun e' => ?_)
              subst e'
              cases o' <;> simp at hg
              case row cs1 f1 v1 => subst hg; exact hfam ⟨_, _, rfl⟩
        sep := fun b1 b2 C1 d1 S1 d2 S2 o1 o2 m1 m2 p1 p2 => by
          -- whoever shares the new block's place shares b's
          have key : ∀ k d3 S3 o3, μ k = some (C', d3, S3) → h.objs.get k = some o3 → SepOK o3 (.row cs' f (top + 1)) ∧ SepOK (.row cs' f (top + 1)) o3 := fun k d3 S3 o3 hk3 ho3 => by
            rcases hW with ⟨rfl, _⟩ | ⟨rfl, _⟩
            · rcases hr.sep k b C' d3 S3 d S o3 _ hk3 hb ho3 hob with rfl | hs
              · rw [hob] at ho3; cases ho3; exact ⟨rfl, rfl⟩
              · cases o3 <;> simp [SepOK] at hs
                subst hs; exact ⟨rfl, rfl⟩
            · have := (hr.obj k _ _ _ hk3).2.1; omega
          by_cases k1 : b1 = h.next
          · by_cases k2 : b2 = h.next
            · exact .inl (k1.trans k2.symm)
            · subst k1; rw [addInj_same] at m1; cases m1
              simp only [Tr.get_set_same, Option.some.injEq] at p1; subst p1
              simp only [Tr.get_set_ne _ _ _ _ k2] at p2
              exact .inr (key b2 _ _ _ (old _ _ _ _ m2 k2).1 p2).2
          · by_cases k2 : b2 = h.next
            · subst k2; rw [addInj_same] at m2; cases m2
              simp only [Tr.get_set_same, Option.some.injEq] at p2; subst p2
              simp only [Tr.get_set_ne _ _ _ _ k1] at p1
              exact .inr (key b1 _ _ _ (old _ _ _ _ m1 k1).1 p1).1
            · simp only [Tr.get_set_ne _ _ _ _ k1] at p1; simp only [Tr.get_set_ne _ _ _ _ k2] at p2
              exact hr.sep b1 b2 C1 d1 S1 d2 S2 o1 o2 (old _ _ _ _ m1 k1).1 (old _ _ _ _ m2 k2).1 p1 p2
        ver := fun b1 b2 x1 x2 cs1 cs2 g v1 m1 m2 p1 p2 => by
          obtain ⟨C1, d1, S1⟩ := x1
          obtain ⟨C2, d2, S2⟩ := x2
          by_cases k1 : b1 = h.next
          · by_cases k2 : b2 = h.next
            · exact k1.trans k2.symm
            · simp only [k1, Tr.get_set_same, Option.some.injEq] at p1; cases p1
              simp only [Tr.get_set_ne _ _ _ _ k2] at p2
              have := verle b2 _ _ _ cs2 _ (old _ _ _ _ m2 k2).1 p2; omega
          · by_cases k2 : b2 = h.next
            · simp only [k2, Tr.get_set_same, Option.some.injEq] at p2; cases p2
              simp only [Tr.get_set_ne _ _ _ _ k1] at p1
              have := verle b1 _ _ _ cs1 _ (old _ _ _ _ m1 k1).1 p1; omega
            · simp only [Tr.get_set_ne _ _ _ _ k1] at p1; simp only [Tr.get_set_ne _ _ _ _ k2] at p2
              exact hr.ver b1 b2 _ _ cs1 cs2 g v1 (old _ _ _ _ m1 k1).1 (old _ _ _ _ m2 k2).1 p1 p2
        ord := fun b1 b2 C1 d1 S1 d2 S2 cs1 cs2 g v1 v2 top' lo1 m1 m2 p1 p2 pf l1 l2 => by
          by_cases k1 : b1 = h.next
          · by_cases k2 : b2 = h.next
            · subst k1; subst k2; rw [m1] at m2; cases m2; rw [p1] at p2; cases p2; exact Nat.le_refl _
            · simp only [k1, Tr.get_set_same, Option.some.injEq] at p1; cases p1
              simp only [Tr.get_set_ne _ _ _ _ k2] at p2
              have := verle b2 _ _ _ cs2 _ (old _ _ _ _ m2 k2).1 p2; omega
          · by_cases k2 : b2 = h.next
            · simp only [Tr.get_set_ne _ _ _ _ k1] at p1
              simp only [k2, Tr.get_set_same, Option.some.injEq] at p2; cases p2
              subst k2; rw [addInj_same] at m2; cases m2
              simp only [Tr.get_set_same, Option.some.injEq] at pf; cases pf
              have q1 := (old _ _ _ _ m1 k1).1
              have hv1 := verle b1 _ _ _ cs1 _ q1 p1
              rcases hlo' with rfl | ⟨rfl, rfl, hend⟩
              · omega
              · rcases hW with ⟨rfl, _, _, hge, _⟩ | ⟨rfl, _⟩
                · have := hr.ord b1 b _ d1 S1 d S cs1 cs f v1 v v _ q1 hb p1 hob hf l1 hv1
                  omega
                · have := (hr.obj b1 _ _ _ q1).2.1; omega
            · simp only [Tr.get_set_ne _ _ _ _ k1] at p1; simp only [Tr.get_set_ne _ _ _ _ k2] at p2
              have q1 := (old _ _ _ _ m1 k1).1
              by_cases hg : g = f
              · subst hg
                simp only [Tr.get_set_same, Option.some.injEq] at pf; cases pf
                have hv1 := verle b1 _ _ _ cs1 _ q1 p1
                rcases hlo' with rfl | ⟨rfl, rfl, hend⟩
                · omega
                · exact hr.ord b1 b2 C1 d1 S1 d2 S2 cs1 cs2 g v1 v2 v _ q1 (old _ _ _ _ m2 k2).1 p1 p2 hf l1 l2
              · simp only [Tr.get_set_ne _ _ _ _ hg] at pf
                exact hr.ord b1 b2 C1 d1 S1 d2 S2 cs1 cs2 g v1 v2 top' lo1 q1 (old _ _ _ _ m2 k2).1 p1 p2 pf l1 l2
        fid := fun k x cs1 g v1 m1 p1 => by
          obtain ⟨C1, d1, S1⟩ := x
          by_cases k1 : k = h.next
          · simp only [k1, Tr.get_set_same, Option.some.injEq] at p1; cases p1
            obtain ⟨hle', y, hy⟩ := hr.fid b _ cs f v hb hob
            have hbn := (hr.obj b _ _ _ hb).1
            exact ⟨by omega, y, hle _ _ hy⟩
          · simp only [Tr.get_set_ne _ _ _ _ k1] at p1
            obtain ⟨hle', y, hy⟩ := hr.fid k _ cs1 g v1 (old _ _ _ _ m1 k1).1 p1
            exact ⟨hle', y, hle _ _ hy⟩ }
  · exact
      { sub := hle
        newA := fun k x hk => by
          by_cases hk' : k = h.next
          · exact .inr (Nat.le_of_eq hk'.symm)
          · rw [addInj_ne _ _ _ _ hk'] at hk; exact .inl hk
        newC := fun k C1 d1 S1 hk hn => by
          by_cases hk' : k = h.next
          · subst hk'; rw [addInj_same] at hk; cases hk
            rcases hW with ⟨rfl, _⟩ | ⟨rfl, _⟩
            · exact .inr ⟨b, d, S, hb⟩
            · exact .inl (Nat.le_refl _)
          · rw [addInj_ne _ _ _ _ hk'] at hk; rw [hk] at hn; cases hn
        next := Nat.le_succ _
        size := size.1
        frC := fun k hk hro => heapne k hk (fun e => by
          subst e
          have := hro b d S hb
          rw [hob] at this; exact this)
        frA := fun k hk hn => by
          refine ⟨Tr.get_set_ne _ _ _ _ (by omega), Tr.get_set_ne _ _ _ _ (fun e => ?_)⟩
          subst e
          obtain ⟨_, y, hy⟩ := hr.fid b _ cs k v hb hob
          rw [hy] at hn; cases hn
        ro := fun k x hk _ => by
          obtain ⟨C1, d1, S1⟩ := x
          exact Tr.get_set_ne _ _ _ _ (by have := (hr.obj k C1 d1 S1 hk).1; omega)
        os := hos
        output := hout }
end Go.Am
/- The abstract machine against the model: what one operation does. Part 1: the frame of the statement; operations that touch no memory. -/
namespace Go.Am

variable {P : Program}

/-- What a run of an operation comes to: a value behind it, or a panic. -/
def Upon (P : Program) (r : Result Next) (Ret Pan : Value → World → Prop) : Prop :=
  match r with
  | .ok (.value v) w' => Ret v w'
  | .ok .skip w' => Ret undef w'
  | .ok (.enter f args) w' => Calls P f args w' fun
      | .returned v, w'' => Ret v w''
      | .panicked chain, w'' => ∃ v, chain = [{ v, recovered := false }] ∧ Pan v w''
      | .outgrown, _ => False
  | .halt (.panic v) w' => Pan v w'
  | _ => False

theorem Upon.mono {r : Result Next} {Ret Pan Ret' Pan' : Value → World → Prop} (h : Upon P r Ret Pan) (h1 : ∀ v w, Ret v w → Ret' v w) (h2 : ∀ v w, Pan v w → Pan' v w) : Upon P r Ret' Pan' := by
  unfold Upon at *
  split at h
  · exact h1 _ _ h
  · exact h1 _ _ h
  · exact Calls.mono h fun e w' he => by
      cases e with
      | returned v => exact h1 _ _ he
      | panicked chain => obtain ⟨v, e1, e2⟩ := he; exact ⟨v, e1, h2 _ _ e2⟩
      | outgrown => exact he
  · exact h2 _ _ h
  · exact h.elim

theorem Upon.oper {o : Oper} {a : Act} {next : Act → World → Prop} {Q : Exit → Act → World → Prop} {r : Result Next} {Ret Pan : Value → World → Prop} (h : Upon P r Ret Pan)
    (h1 : ∀ v w, Ret v w → next (a.put o.dst v) w) (h2 : ∀ v w, Pan v w → Q (.panic [{ v, recovered := false }]) a w) : o.upon P a next Q r := by
  unfold Upon at h
  split at h
  · exact h1 _ _ h
  · exact h1 _ _ h
  · exact Calls.mono h fun e w' he => by
      cases e with
      | returned v => exact h1 _ _ he
      | panicked chain => obtain ⟨v, e1, e2⟩ := he; subst e1; exact h2 _ _ e2
      | outgrown => exact he.elim
  · exact h2 _ _ h
  · exact h.elim

/-- A step of the abstract machine that went well, and what the model did. -/
def RetOf (μ : Inj) (h : AHeap) (w : World) (r : Res AV) (v : Value) (w' : World) : Prop := ∃ a h' μ', r = .ok a h' ∧ Rel μ' h' w' ∧ Ext μ h w μ' h' w' ∧ VRel μ' a v
def PanOf (μ : Inj) (h : AHeap) (w : World) (r : Res AV) (v : Value) (w' : World) : Prop := ∃ a h' μ', r = .pan a h' ∧ Rel μ' h' w' ∧ Ext μ h w μ' h' w' ∧ VRel μ' a v
def Meets (P : Program) (μ : Inj) (h : AHeap) (w : World) (r : Res AV) (s : Result Next) : Prop := Upon P s (RetOf μ h w r) (PanOf μ h w r)

theorem Meets.val {μ : Inj} {h : AHeap} {w : World} (hr : Rel μ h w) {r : Res AV} {s : Result Next} {a : AV} {v : Value} (h1 : r = .ok a h) (h2 : s = .ok (.value v) w) (h3 : VRel μ a v) : Meets P μ h w r s := by
  subst h1; subst h2
  exact ⟨a, h, μ, rfl, hr, Ext.refl, h3⟩
theorem Meets.val' {μ μ' : Inj} {h h' : AHeap} {w w' : World} {r : Res AV} {s : Result Next} {a : AV} {v : Value} (h1 : r = .ok a h') (h2 : s = .ok (.value v) w') (hr : Rel μ' h' w') (he : Ext μ h w μ' h' w') (h3 : VRel μ' a v) : Meets P μ h w r s := by
  subst h1; subst h2
  exact ⟨a, h', μ', rfl, hr, he, h3⟩
theorem Meets.skip {μ μ' : Inj} {h h' : AHeap} {w w' : World} {r : Res AV} {s : Result Next} (h1 : r = .ok undefA h') (h2 : s = .ok .skip w') (hr : Rel μ' h' w') (he : Ext μ h w μ' h' w') : Meets P μ h w r s := by
  subst h1; subst h2
  exact ⟨_, h', μ', rfl, hr, he, ⟨#[], rfl, rfl⟩⟩

theorem undef_rel (μ : Inj) : VRel μ undefA undef := ⟨#[], rfl, rfl⟩

/- ### constants -/
mutual
theorem absV_rel (μ : Inj) : ∀ v : Value, VRel μ (absV v) v
  | .bool _ => by simp [absV, VRel]
  | .int _ _ => by simp [absV, VRel]
  | .float .. => by simp [absV, VRel]
  | .complex .. => by simp [absV, VRel]
  | .string s => by rw [absV]; exact ⟨s, rfl, rfl⟩
  | .pointer none => by simp [absV, VRel]
  | .pointer (some _) => by simp [absV, VRel]
  | .slice a n c => by
    unfold absV
    split <;> simp_all [VRel]
  | .map none => by simp [absV, VRel]
  | .map (some _) => by simp [absV, VRel]
  | .chan _ => by simp [absV, VRel]
  | .func fn a c => by
    unfold absV
    split <;> simp_all [VRel, VRels]
  | .nilFunc => by simp [absV, VRel]
  | .iface .. => by simp [absV, VRel]
  | .nilIface => by simp [absV, VRel]
  | .agg ⟨cs⟩ => by rw [absV]; exact ⟨⟨cs⟩, rfl, absVs_rel μ cs⟩
  | .tuple ⟨cs⟩ => by rw [absV]; exact ⟨⟨cs⟩, rfl, absVs_rel μ cs⟩
theorem absVs_rel (μ : Inj) : ∀ l : List Value, VRels μ (absVs l) l
  | [] => by simp [absVs, VRels]
  | v :: vs => by rw [absVs]; exact ⟨v, vs, rfl, absV_rel μ v, absVs_rel μ vs⟩
end

/- ### numbers and texts -/
theorem wrapA_eq (k : IntKind) (n : Int) : wrapA k n = k.wrap n := by
  unfold wrapA
  split
  · cases hn : inI64 n with
    | false => rfl
    | true =>
      simp only [cond]
      unfold inI64 at hn
      split at hn
      · have := Nat.le_of_ble_eq_true hn
        rw [IntKind.wrap_i64]; simp only [Int.ofNat_eq_natCast]; omega
      · have := Nat.le_of_ble_eq_true hn
        rw [IntKind.wrap_i64]; omega
  · split
    · rw [IntKind.wrap_u8]; simp
    · rfl
  · rfl

/-- a value without an address -/
def Gives (P : Program) (s : Sem Value) (w : World) (a : AV) : Prop := ∃ v, s.run P w = .ok v w ∧ ∀ μ, VRel μ a v

theorem intBin_sound {op : BinOp} {k : IntKind} {x y : Int} {a : AV} {t : TypeId} {w : World} (h : intBin op k x y = some a) : Gives P (binOp op t (.int k x) (.int k y)) w a := by
  cases op <;> simp only [intBin, Option.some.injEq, reduceCtorEq] at h
  case add => subst h; exact ⟨.int k (k.wrap (x + y)), by simp [binOp, Op.intArith], fun μ => by simp [VRel, wrapA_eq]⟩
  case sub => subst h; exact ⟨.int k (k.wrap (x - y)), by simp [binOp, Op.intArith], fun μ => by simp [VRel, wrapA_eq]⟩
  case mul => subst h; exact ⟨.int k (k.wrap (x * y)), by simp [binOp, Op.intArith], fun μ => by simp [VRel, wrapA_eq]⟩
  case quo =>
    by_cases hy : y = 0
    · subst hy; simp at h
    · rw [show (y == 0) = false by simp [hy]] at h
      simp only [cond, Option.some.injEq] at h; subst h
      exact ⟨.int k (k.wrap (x.tdiv y)), by simp [binOp, Op.intDiv, hy], fun μ => by simp [VRel, wrapA_eq]⟩
  case rem =>
    by_cases hy : y = 0
    · subst hy; simp at h
    · rw [show (y == 0) = false by simp [hy]] at h
      simp only [cond, Option.some.injEq] at h; subst h
      exact ⟨.int k (x.tmod y), by simp [binOp, Op.intDiv, hy], fun μ => by simp [VRel]⟩
  case and => simp only [bitsA, Option.some.injEq] at h; subst h; exact ⟨.int k (k.wrap (BitVec.ofInt k.bits x &&& BitVec.ofInt k.bits y).toNat), by simp [binOp, Op.intBits], fun μ => by simp [VRel]⟩
  case or => simp only [bitsA, Option.some.injEq] at h; subst h; exact ⟨.int k (k.wrap (BitVec.ofInt k.bits x ||| BitVec.ofInt k.bits y).toNat), by simp [binOp, Op.intBits], fun μ => by simp [VRel]⟩
  case xor => simp only [bitsA, Option.some.injEq] at h; subst h; exact ⟨.int k (k.wrap (BitVec.ofInt k.bits x ^^^ BitVec.ofInt k.bits y).toNat), by simp [binOp, Op.intBits], fun μ => by simp [VRel]⟩
  case andNot => simp only [bitsA, Option.some.injEq] at h; subst h; exact ⟨.int k (k.wrap (BitVec.ofInt k.bits x &&& ~~~BitVec.ofInt k.bits y).toNat), by simp [binOp, Op.intBits], fun μ => by simp [VRel]⟩
  case eql => subst h; exact ⟨.bool (x == y), by simp [binOp, Op.intCmp], fun μ => by simp [VRel]⟩
  case neq => subst h; exact ⟨.bool (x != y), by simp [binOp, Op.intCmp], fun μ => by simp [VRel]⟩
  case lss => subst h; exact ⟨.bool (decide (x < y)), by simp [binOp, Op.intCmp], fun μ => by simp [VRel]⟩
  case leq => subst h; exact ⟨.bool (decide (x ≤ y)), by simp [binOp, Op.intCmp], fun μ => by simp [VRel]⟩
  case gtr => subst h; exact ⟨.bool (decide (x > y)), by simp [binOp, Op.intCmp], fun μ => by simp [VRel]⟩
  case geq => subst h; exact ⟨.bool (decide (x ≥ y)), by simp [binOp, Op.intCmp], fun μ => by simp [VRel]⟩

theorem shiftA_sound {op : BinOp} {k yk : IntKind} {x y : Int} {a : AV} {t : TypeId} {w : World} (hop : op = .shl ∨ op = .shr) (h : shiftA op k x y = some a) : Gives P (binOp op t (.int k x) (.int yk y)) w a := by
  unfold shiftA at h
  by_cases hy : y < 0
  · simp [hy] at h
  · simp only [hy, decide_false, cond] at h
    rcases hop with rfl | rfl
    · simp only [Option.some.injEq] at h; subst h
      exact ⟨.int k (k.wrap (x * 2 ^ (min y.toNat k.bits))), by simp [binOp, Op.shift, hy], fun μ => by simp [VRel]⟩
    · simp only [Option.some.injEq] at h; subst h
      exact ⟨.int k (x.fdiv (2 ^ (min y.toNat k.bits))), by simp [binOp, Op.shift, hy], fun μ => by simp [VRel]⟩

theorem toList_bytes (s : ByteArray) : s.toList = s.data.toList := ByteArray.toList_eq s

theorem strBin_sound {op : BinOp} {x y : ByteArray} {a : AV} {t : TypeId} {w : World} (h : strBin op x.data.toList y.data.toList = some a) : Gives P (binOp op t (.string x) (.string y)) w a := by
  cases op <;> simp only [strBin, Option.some.injEq, reduceCtorEq] at h
  case add =>
    cases hb : Nat.ble (x.data.toList.length + y.data.toList.length) maxLenA with
    | false => rw [hb] at h; cases h
    | true =>
      rw [hb] at h; simp only [cond, Option.some.injEq] at h; subst h
      have hle := Nat.le_of_ble_eq_true hb
      have hs : x.data.toList.length + y.data.toList.length = x.size + y.size := by rw [Array.length_toList, Array.length_toList]; rfl
      rw [hs] at hle
      have hm : maxLenA ≤ 1073741824 := Nat.le_refl _
      exact ⟨.string (x ++ y), run_string_add_sum w x y (by omega), fun μ => ⟨x ++ y, rfl, by simp⟩⟩
  case eql => subst h; exact ⟨.bool (x.toList == y.toList), rfl, fun μ => by simp [VRel, toList_bytes]⟩
  case neq => subst h; exact ⟨.bool !(x.toList == y.toList), rfl, fun μ => by simp [VRel, toList_bytes]⟩
  case lss => subst h; exact ⟨.bool (Op.bytesLess x.toList y.toList), rfl, fun μ => by simp [VRel, toList_bytes]⟩
  case leq => subst h; exact ⟨.bool (Op.bytesLess x.toList y.toList || x.toList == y.toList), rfl, fun μ => by simp [VRel, toList_bytes]⟩
  case gtr => subst h; exact ⟨.bool !(Op.bytesLess x.toList y.toList || x.toList == y.toList), rfl, fun μ => by simp [VRel, toList_bytes]⟩
  case geq => subst h; exact ⟨.bool !Op.bytesLess x.toList y.toList, rfl, fun μ => by simp [VRel, toList_bytes]⟩
end Go.Am
/- The abstract machine against the model: equality. -/
namespace Go.Am

variable {P : Program}

/- ### parts of an aggregate -/
/-- the value of a type that some cells are -/
def valOf (agg : Bool) (us : List Value) : Value := cond agg (.agg us.toArray) (us.headD undef)

theorem part_run {t : TypeId} {xs : Array Value} {off n : Nat} {w : World} {b : Bool} (hb : isAggT P t = some b) (hn : b = true → P.cellsOf t = n) (hn1 : b = false → n = 1) (hl : off + n ≤ xs.size) :
    (part t xs off).run P w = .ok (valOf b ((xs.toList.drop off).take n)) w := by
  unfold isAggT at hb
  cases hu : P.underlying t with
  | none => simp [hu] at hb
  | some d =>
    have hagg : (isAgg t).run P w = .ok b w := by
      simp only [isAgg, Sem.run_bind, run_underlying hu, Result.andThen_ok]
      cases d <;> simp [hu] at hb <;> subst hb <;> rfl
    cases b with
    | true =>
      have hc := hn rfl
      have hi : ∃ i, P.info? t = some i := by
        unfold Program.underlying at hu
        cases hi : P.info? t with
        | none => simp [hi] at hu
        | some i => exact ⟨i, rfl⟩
      obtain ⟨i, hi⟩ := hi
      have hs : (sizeOf t).run P w = .ok n w := by
        unfold Program.cellsOf at hc
        simp [hi] at hc
        simp [sizeOf, typeInfo, hi, hc]
      have he : xs.extract off (off + n) = ((xs.toList.drop off).take n).toArray := by
        apply Array.ext'
        simp [List.take_drop]
      simp only [part, Sem.run_bind, hagg, Result.andThen_ok, if_true, hs, Sem.run_pure, he]
      rfl
    | false =>
      obtain rfl := hn1 rfl
      have ho : off < xs.size := by omega
      have h2 : ((xs.toList.drop off).take 1) = [xs[off]] := by
        rw [List.drop_eq_getElem_cons (by simpa using ho)]
        simp
      simp only [part, Sem.run_bind, hagg, Result.andThen_ok, Bool.false_eq_true, if_false, Array.getElem?_eq_getElem ho, Sem.run_pure, h2]
      rfl

/- ### cell by cell -/
theorem cellsEq_len : ∀ {ls : List Nat} {as bs : List AV} {r : Bool}, cellsEq ls as bs = some r → as.length = ls.length ∧ bs.length = ls.length
  | [], [], [], _, _ => ⟨rfl, rfl⟩
  | [], _ :: _, _, _, h => by simp [cellsEq] at h
  | [], [], _ :: _, _, h => by simp [cellsEq] at h
  | _ :: _, [], _, _, h => by simp [cellsEq] at h
  | _ :: _, _ :: _, [], _, h => by simp [cellsEq] at h
  | t :: ts, a :: as, b :: bs, r, h => by
    simp only [cellsEq] at h
    cases h1 : cellEq t a b with
    | none => simp [h1] at h
    | some x =>
      cases h2 : cellsEq ts as bs with
      | none => simp [h1, h2] at h
      | some y => have := cellsEq_len h2; simp; exact this
theorem cellsEq_split : ∀ {l1 l2 : List Nat} {as bs : List AV} {r : Bool}, cellsEq (l1 ++ l2) as bs = some r →
    ∃ r1 r2, cellsEq l1 (as.take l1.length) (bs.take l1.length) = some r1 ∧ cellsEq l2 (as.drop l1.length) (bs.drop l1.length) = some r2 ∧ r = (r1 && r2)
  | [], l2, as, bs, r, h => ⟨true, r, by simp [cellsEq], by simpa using h, by simp⟩
  | t :: ts, l2, [], bs, r, h => by simp [cellsEq] at h
  | t :: ts, l2, a :: as, [], r, h => by simp [cellsEq] at h
  | t :: ts, l2, a :: as, b :: bs, r, h => by
    simp only [List.cons_append, cellsEq] at h
    cases h1 : cellEq t a b with
    | none => simp [h1] at h
    | some x =>
      cases h2 : cellsEq (ts ++ l2) as bs with
      | none => simp [h1, h2] at h
      | some y =>
        simp [h1, h2] at h
        obtain ⟨r1, r2, q1, q2, q3⟩ := cellsEq_split h2
        refine ⟨x && r1, r2, by simp [cellsEq, h1, q1], by simpa using q2, by rw [← h, q3, Bool.and_assoc]⟩

/-- what kind of type it is whose leaves are known -/
theorem leaf_kind : ∀ {d : Nat} {t : TypeId} {ls : List Nat}, leafT P d t = some ls → ∃ b, isAggT P t = some b ∧ (b = true → P.cellsOf t = ls.length) ∧ (b = false → ls.length = 1) ∧ 1 ≤ ls.length
  | d + 1, t, ls, h => by
    simp only [leafT] at h
    cases hu : P.underlying t with
    | none => simp [hu] at h
    | some x =>
      cases x <;> simp only [hu, Option.some.injEq, reduceCtorEq] at h
      case bool => subst h; exact ⟨false, by simp [isAggT, hu], by simp, by simp, by simp⟩
      case int => subst h; exact ⟨false, by simp [isAggT, hu], by simp, by simp, by simp⟩
      case string => subst h; exact ⟨false, by simp [isAggT, hu], by simp, by simp, by simp⟩
      case struct fs =>
        cases hl : leafF (leafT P d) 0 fs.toList with
        | none => simp [hl] at h
        | some l =>
          simp only [hl] at h
          cases hc : (!P.stoodInHeld t && (Nat.beq l.length (P.cellsOf t) && Nat.ble 1 l.length)) with
          | false => simp [hc] at h
          | true =>
            simp only [hc, cond, Option.some.injEq] at h; subst h
            simp only [Bool.and_eq_true, Bool.not_eq_true', Nat.ble_eq] at hc
            exact ⟨true, by simp [isAggT, hu], fun _ => (Nat.eq_of_beq_eq_true hc.2.1).symm, by simp, hc.2.2⟩

theorem cellEq_one {t : TypeId} {d : Nat} {μ : Inj} {a b : AV} {u v : Value} {l : Nat} {r : Bool} {w : World} (ht : leafT P 1 t = some [l]) (hs : ∀ fs, P.underlying t ≠ some (.struct fs)) (h : cellEq l a b = some r) (ha : VRel μ a u) (hb : VRel μ b v) :
    (Op.equalIn (d + 1) t u v).run P w = .ok r w := by
  simp only [leafT] at ht
  cases hu : P.underlying t with
  | none => simp [hu] at ht
  | some x =>
    cases x <;> simp only [hu, Option.some.injEq, reduceCtorEq] at ht
    case bool =>
      cases ht
      cases a <;> cases b <;> simp only [cellEq, Option.some.injEq, reduceCtorEq] at h
      rw [VRel] at ha hb; subst ha; subst hb; subst h
      exact run_equalIn_bool' w d t _ _ hu
    case int =>
      cases ht
      cases a <;> cases b <;> first | (simp [cellEq] at h; done) | skip
      case int.int k x l y =>
        simp only [cellEq] at h
        by_cases hk : k = l
        · subst hk; simp at h; subst h
          rw [VRel] at ha hb; subst ha; subst hb
          exact run_equalIn_int w d t k _ _ _ hu
        · rw [show (k == l) = false from beq_eq_false_iff_ne.2 hk] at h; cases h
    case string =>
      cases ht
      cases a <;> cases b <;> simp only [cellEq, Option.some.injEq, reduceCtorEq] at h
      obtain ⟨x, rfl, hx⟩ := ha
      obtain ⟨y, rfl, hy⟩ := hb
      rw [run_equalIn_string w d t x y hu, toList_bytes, toList_bytes, hx, hy, h]
    case struct fs => exact absurd hu (hs fs)

theorem leaf_equal {μ : Inj} : ∀ (d : Nat) {t : TypeId} {ls : List Nat} {b : Bool}, leafT P d t = some ls → isAggT P t = some b → ∀ (D : Nat), d ≤ D → ∀ {as bs : List AV} {us vs : List Value} {r : Bool} (w : World),
    cellsEq ls as bs = some r → VRels μ as us → VRels μ bs vs → (Op.equalIn D t (valOf b us) (valOf b vs)).run P w = .ok r w
  | d + 1, t, ls, b, h, hb, D, hD, as, bs, us, vs, r, w, hc, ha, hv => by
    obtain ⟨D, rfl⟩ : ∃ D', D = D' + 1 := ⟨D - 1, by omega⟩
    cases hu : P.underlying t with
    | none => simp [leafT, hu] at h
    | some x =>
      have scalar : ∀ l, ls = [l] → (∀ fs, P.underlying t ≠ some (.struct fs)) → b = false → leafT P 1 t = some [l] → (Op.equalIn (D + 1) t (valOf b us) (valOf b vs)).run P w = .ok r w := fun l e hs hbf hl => by
        subst e; subst hbf
        obtain ⟨e1, e2⟩ := cellsEq_len hc
        match as, bs, e1, e2 with
        | [a], [c], _, _ =>
          obtain ⟨u, us', rfl, hu1, hu2⟩ := ha
          obtain ⟨v, vs', rfl, hv1, hv2⟩ := hv
          simp only [cellsEq] at hc
          cases h1 : cellEq l a c with
          | none => simp [h1] at hc
          | some y =>
            simp [h1] at hc; subst hc
            exact cellEq_one hl hs h1 hu1 hv1
      cases x <;> simp only [leafT, hu, Option.some.injEq, reduceCtorEq] at h
      case bool => exact scalar 0 h.symm (by simp [hu]) (by simp [isAggT, hu] at hb; exact hb) (by simp [leafT, hu])
      case int => exact scalar 1 h.symm (by simp [hu]) (by simp [isAggT, hu] at hb; exact hb) (by simp [leafT, hu])
      case string => exact scalar 2 h.symm (by simp [hu]) (by simp [isAggT, hu] at hb; exact hb) (by simp [leafT, hu])
      case struct fs =>
        obtain rfl : b = true := by simp [isAggT, hu] at hb; exact hb
        cases hl : leafF (leafT P d) 0 fs.toList with
        | none => simp [hl] at h
        | some l =>
          simp only [hl] at h
          cases hcc : (!P.stoodInHeld t && (Nat.beq l.length (P.cellsOf t) && Nat.ble 1 l.length)) with
          | false => simp [hcc] at h
          | true =>
            simp only [hcc, cond, Option.some.injEq] at h; subst h
            simp only [Bool.and_eq_true, Bool.not_eq_true', Nat.ble_eq] at hcc
            have hfs : P.fieldsOf t = fs := by simp [Program.fieldsOf, hu]
            rw [show valOf true us = .agg us.toArray from rfl, show valOf true vs = .agg vs.toArray from rfl, run_equalIn_struct w D t _ _ (by rw [hfs]; exact hu) hcc.1, hfs]
            have key : ∀ (fs : List Field) (off : Nat) (ls : List Nat) (as bs : List AV) (r : Bool), leafF (leafT P d) off fs = some ls → cellsEq ls as bs = some r → VRels μ as (us.drop off) → VRels μ bs (vs.drop off) →
                (Op.eqFields D us.toArray vs.toArray fs).run P w = .ok r w := by
              intro fs
              induction fs with
              | nil =>
                intro off ls as bs r h1 h2 _ _
                simp [leafF] at h1; subst h1
                match as, bs, h2 with
                | [], [], h2 => simp [cellsEq] at h2; subst h2; rfl
                | _ :: _, _, h2 => simp [cellsEq] at h2
                | [], _ :: _, h2 => simp [cellsEq] at h2
              | cons f fs ih =>
                intro off ls as bs r h1 h2 h3 h4
                simp only [leafF] at h1
                cases hn : (Nat.beq f.offset off && f.name != "_") with
                | false => simp [hn] at h1
                | true =>
                  simp only [hn, cond] at h1
                  simp at hn
                  cases g1 : leafT P d f.type with
                  | none => simp [g1] at h1
                  | some l1 =>
                    simp only [g1] at h1
                    cases g2 : leafF (leafT P d) (off + l1.length) fs with
                    | none => simp [g2] at h1
                    | some l2 =>
                      simp [g2] at h1; subst h1
                      obtain ⟨r1, r2, q1, q2, q3⟩ := cellsEq_split h2
                      obtain ⟨e1, e2⟩ := cellsEq_len h2
                      have z1 := h3.length
                      have z2 := h4.length
                      simp at e1 e2 z1 z2
                      obtain ⟨bf, k1, k2, k3, k4⟩ := leaf_kind g1
                      have p1 := part_run (P := P) (t := f.type) (xs := us.toArray) (off := f.offset) (n := l1.length) (w := w) k1 k2 k3 (by simp; omega)
                      have p2 := part_run (P := P) (t := f.type) (xs := vs.toArray) (off := f.offset) (n := l1.length) (w := w) k1 k2 k3 (by simp; omega)
                      have hne : f.name ≠ "_" := hn.2
                      have eqr := leaf_equal (μ := μ) d g1 k1 D (by omega) w q1 (h3.take l1.length) (h4.take l1.length)
                      rw [← hn.1] at eqr
                      simp only [Op.eqFields, hne, ne_eq, not_false_eq_true, if_true, Sem.run_bind, p1, Result.andThen_ok, p2, eqr]
                      cases r1 with
                      | false => simp [q3]
                      | true =>
                        simp only [Bool.not_true, Bool.false_eq_true, if_false, q3, Bool.true_and]
                        exact ih (off + l1.length) l2 _ _ r2 g2 q2 (by rw [← List.drop_drop]; exact h3.drop _) (by rw [← List.drop_drop]; exact h4.drop _)
            exact key fs.toList 0 l as bs r hl hc (by simpa using ha) (by simpa using hv)
end Go.Am
/- The abstract machine against the model: comparisons, binary and unary operators. -/
namespace Go.Am

variable {P : Program}

theorem leaf_guard : ∀ (d : Nat) {t : TypeId} {ls : List Nat}, leafT P d t = some ls → ∀ D, d ≤ D → P.eqGuardType D t = false
  | d + 1, t, ls, h, D, hD => by
    obtain ⟨D, rfl⟩ : ∃ D', D = D' + 1 := ⟨D - 1, by omega⟩
    cases hu : P.underlying t with
    | none => simp [leafT, hu] at h
    | some x =>
      cases x <;> simp only [leafT, hu, Option.some.injEq, reduceCtorEq] at h <;> simp only [Program.eqGuardType, hu]
      case struct fs =>
        cases hl : leafF (leafT P d) 0 fs.toList with
        | none => simp [hl] at h
        | some l =>
          clear h
          have key : ∀ (fs : List Field) (off : Nat) (l : List Nat), leafF (leafT P d) off fs = some l → (fs.any fun f => f.name != "_" && P.eqGuardType D f.type) = false := by
            intro fs
            induction fs with
            | nil => intro _ _ _; rfl
            | cons f fs ih =>
              intro off l h1
              simp only [leafF] at h1
              cases hn : (Nat.beq f.offset off && f.name != "_") with
              | false => simp [hn] at h1
              | true =>
                simp only [hn, cond] at h1
                cases g1 : leafT P d f.type with
                | none => simp [g1] at h1
                | some l1 =>
                  simp only [g1] at h1
                  cases g2 : leafF (leafT P d) (off + l1.length) fs with
                  | none => simp [g2] at h1
                  | some l2 => simp only [List.any_cons, leaf_guard d g1 D (by omega), Bool.and_false, ih _ _ g2, Bool.or_self]
          have := key fs.toList 0 l hl
          rw [← Array.any_toList]; exact this

theorem eqGuard_none {op : BinOp} {t : TypeId} {x y : Operand} {a b : Value} {w : World} (h1 : ¬ (a = .nilIface ∧ b = .nilIface)) (h2 : ∀ u v, ¬ (a = .agg u ∧ b = .agg v)) : (eqGuard op t x y a b).run P w = .ok () w := by
  cases op <;> simp only [eqGuard] <;> try rfl
  all_goals (cases a <;> cases b <;> first | rfl | (exact absurd ⟨rfl, rfl⟩ h1) | (exact absurd ⟨rfl, rfl⟩ (h2 _ _)))

theorem equal_of {t : TypeId} {u v : Value} {r : Bool} {w : World} (h : ∀ D, (Op.equalIn (D + 1) t u v).run P w = .ok r w) : (Op.equal t u v).run P w = .ok r w := h 9999
theorem equal_nilIface {t : TypeId} {ms : Array (String × TypeId)} {w : World} (hu : P.underlying t = some (.interface ms)) : (Op.equal t .nilIface .nilIface).run P w = .ok true w :=
  equal_of fun D => by simp [Op.equalIn, run_underlying hu]
theorem guard_nilIface {op : BinOp} {t : TypeId} {x y : Operand} {w : World} (hc : (isC x || isC y) = true) : (eqGuard op t x y .nilIface .nilIface).run P w = .ok () w := by
  cases op <;> first | rfl | (cases x <;> cases y <;> first | rfl | (simp [isC] at hc))
theorem equal_agg {μ : Inj} {t : TypeId} {fs : Array Field} {ls : List Nat} {a b : List AV} {u v : Array Value} {r : Bool} {w : World} (hu : P.underlying t = some (.struct fs)) (hl : leafT P 8 t = some ls) (h : cellsEq ls a b = some r)
    (ha : VRels μ a u.toList) (hb : VRels μ b v.toList) : (Op.equal t (.agg u) (.agg v)).run P w = .ok r w := by
  have := leaf_equal (μ := μ) 8 hl (b := true) (by simp [isAggT, hu]) 10000 (by omega) w h ha hb
  exact this

set_option maxHeartbeats 1000000 in
/-- '==' -/
theorem eqC_sound {t : TypeId} {x y : Operand} {a b : AV} {u v : Value} {r : Bool} {μ : Inj} {w : World} (h : eqC P (isC x || isC y) t a b = some r) (ha : VRel μ a u) (hb : VRel μ b v) (op : BinOp) (hop : op = .eql ∨ op = .neq)
    (hn : ∀ k l i j, ¬ (a = .int k i ∧ b = .int l j)) (hs : ∀ k l, ¬ (a = .str k ∧ b = .str l)) :
    (eqGuard op t x y u v).run P w = .ok () w ∧ (binOp op t u v).run P w = .ok (.bool (cond (op == .eql) r !r)) w := by
  have fin : ∀ u v, (∀ k i, u ≠ .int k i) → (∀ s, u ≠ .string s) → (∀ k i, v ≠ .int k i) → (∀ s, v ≠ .string s) → (∀ k i, u ≠ .float k i) → (∀ k i j, u ≠ .complex k i j) → (Op.equal t u v).run P w = .ok r w → (binOp op t u v).run P w = .ok (.bool (cond (op == .eql) r !r)) w := by
    intro u v h1 h2 h3 h4 h5 h6 he
    rcases hop with rfl | rfl <;> (cases u <;> first | (exact absurd rfl (h1 _ _)) | (exact absurd rfl (h2 _)) | (exact absurd rfl (h5 _ _)) | (exact absurd rfl (h6 _ _ _)) | (cases v <;> first | (exact absurd rfl (h3 _ _)) | (exact absurd rfl (h4 _)) | (simp only [binOp, Sem.run_bind, he, Result.andThen_ok, Sem.run_pure]; rfl)))
  have both : ∀ {u v : Value}, (∀ k i, u ≠ .int k i) → (∀ s, u ≠ .string s) → (∀ k i, v ≠ .int k i) → (∀ s, v ≠ .string s) → (∀ k i, u ≠ .float k i) → (∀ k i j, u ≠ .complex k i j) → ¬ (u = .nilIface ∧ v = .nilIface) → (∀ x y, ¬ (u = .agg x ∧ v = .agg y)) →
      (∀ D, (Op.equalIn (D + 1) t u v).run P w = .ok r w) → (eqGuard op t x y u v).run P w = .ok () w ∧ (binOp op t u v).run P w = .ok (.bool (cond (op == .eql) r !r)) w :=
    fun h1 h2 h3 h4 h5 h6 h7 h8 he => ⟨eqGuard_none h7 h8, fin _ _ h1 h2 h3 h4 h5 h6 (equal_of he)⟩
  cases a <;> cases b <;> simp only [eqC, eqA, reduceCtorEq] at h
  case bool.bool a b =>
    rw [VRel] at ha hb; subst ha; subst hb
    cases hu : P.underlying t with
    | none => simp [hu] at h
    | some d =>
      cases d <;> simp only [hu, Option.some.injEq, reduceCtorEq] at h
      subst h
      exact both (by simp) (by simp) (by simp) (by simp) (by simp) (by simp) (by simp) (by simp) (fun D => run_equalIn_bool' w D t a b hu)
  case ptr.ptr a b =>
    cases a with
    | none =>
      rw [VRel] at ha; subst ha
      obtain ⟨b', rfl, hbb⟩ : ∃ b', v = .pointer b' ∧ b'.isNone = b.isNone := by
        cases b with
        | none => rw [VRel] at hb; exact ⟨_, hb, rfl⟩
        | some l => obtain ⟨C, d, S, _, rfl⟩ := hb; exact ⟨_, rfl, rfl⟩
      cases hu : P.underlying t with
      | none => simp [hu] at h
      | some d =>
        cases d <;> simp only [hu, Option.some.injEq, reduceCtorEq] at h
        subst h
        exact both (by simp) (by simp) (by simp) (by simp) (by simp) (by simp) (by simp) (by simp) (fun D => by simp [Op.equalIn, run_underlying hu, hbb])
    | some l =>
      cases b with
      | some _ => simp at h
      | none =>
        rw [VRel] at hb; subst hb
        obtain ⟨C, d, S, _, rfl⟩ := ha
        cases hu : P.underlying t with
        | none => simp [hu] at h
        | some d =>
          cases d <;> simp only [hu, Option.some.injEq, reduceCtorEq] at h
          subst h
          exact both (by simp) (by simp) (by simp) (by simp) (by simp) (by simp) (by simp) (by simp) (fun D => by simp [Op.equalIn, run_underlying hu])
  case snil.snil =>
    rw [VRel] at ha hb; subst ha; subst hb
    cases hu : P.underlying t with
    | none => simp [hu] at h
    | some d =>
      cases d <;> simp only [hu, Option.some.injEq, reduceCtorEq] at h
      subst h
      exact both (by simp) (by simp) (by simp) (by simp) (by simp) (by simp) (by simp) (by simp) (fun D => by simp [Op.equalIn, run_underlying hu])
  case snil.szero =>
    rw [VRel] at ha; subst ha
    obtain ⟨z, rfl⟩ := hb
    cases hu : P.underlying t with
    | none => simp [hu] at h
    | some d =>
      cases d <;> simp only [hu, Option.some.injEq, reduceCtorEq] at h
      subst h
      exact both (by simp) (by simp) (by simp) (by simp) (by simp) (by simp) (by simp) (by simp) (fun D => by simp [Op.equalIn, run_underlying hu])
  case szero.snil =>
    rw [VRel] at hb; subst hb
    obtain ⟨z, rfl⟩ := ha
    cases hu : P.underlying t with
    | none => simp [hu] at h
    | some d =>
      cases d <;> simp only [hu, Option.some.injEq, reduceCtorEq] at h
      subst h
      exact both (by simp) (by simp) (by simp) (by simp) (by simp) (by simp) (by simp) (by simp) (fun D => by simp [Op.equalIn, run_underlying hu])
  case snil.sl =>
    rw [VRel] at ha; subst ha
    obtain ⟨C, d, S, a, cap, _, rfl, _⟩ := hb
    cases hu : P.underlying t with
    | none => simp [hu] at h
    | some d =>
      cases d <;> simp only [hu, Option.some.injEq, reduceCtorEq] at h
      subst h
      exact both (by simp) (by simp) (by simp) (by simp) (by simp) (by simp) (by simp) (by simp) (fun D => by simp [Op.equalIn, run_underlying hu])
  case sl.snil =>
    rw [VRel] at hb; subst hb
    obtain ⟨C, d, S, a, cap, _, rfl, _⟩ := ha
    cases hu : P.underlying t with
    | none => simp [hu] at h
    | some d =>
      cases d <;> simp only [hu, Option.some.injEq, reduceCtorEq] at h
      subst h
      exact both (by simp) (by simp) (by simp) (by simp) (by simp) (by simp) (by simp) (by simp) (fun D => by simp [Op.equalIn, run_underlying hu])
  case map.map a b =>
    cases a with
    | none =>
      rw [VRel] at ha; subst ha
      obtain ⟨b', rfl, hbb⟩ : ∃ b', v = .map b' ∧ b'.isNone = b.isNone := by
        cases b with
        | none => rw [VRel] at hb; exact ⟨_, hb, rfl⟩
        | some l => obtain ⟨C, d, S, _, rfl⟩ := hb; exact ⟨_, rfl, rfl⟩
      cases hu : P.underlying t with
      | none => simp [hu] at h
      | some d =>
        cases d <;> simp only [hu, Option.some.injEq, reduceCtorEq] at h
        subst h
        exact both (by simp) (by simp) (by simp) (by simp) (by simp) (by simp) (by simp) (by simp) (fun D => by simp [Op.equalIn, run_underlying hu, hbb])
    | some l =>
      cases b with
      | some _ => simp at h
      | none =>
        rw [VRel] at hb; subst hb
        obtain ⟨C, d, S, _, rfl⟩ := ha
        cases hu : P.underlying t with
        | none => simp [hu] at h
        | some d =>
          cases d <;> simp only [hu, Option.some.injEq, reduceCtorEq] at h
          subst h
          exact both (by simp) (by simp) (by simp) (by simp) (by simp) (by simp) (by simp) (by simp) (fun D => by simp [Op.equalIn, run_underlying hu])
  case func.nilFunc =>
    rw [VRel] at hb; subst hb
    obtain ⟨a', c', rfl, _⟩ := ha
    cases hu : P.underlying t with
    | none => simp [hu] at h
    | some d =>
      cases d <;> simp only [hu, Option.some.injEq, reduceCtorEq] at h
      subst h
      exact both (by simp) (by simp) (by simp) (by simp) (by simp) (by simp) (by simp) (by simp) (fun D => by simp [Op.equalIn, run_underlying hu])
  case nilFunc.func =>
    rw [VRel] at ha; subst ha
    obtain ⟨a', c', rfl, _⟩ := hb
    cases hu : P.underlying t with
    | none => simp [hu] at h
    | some d =>
      cases d <;> simp only [hu, Option.some.injEq, reduceCtorEq] at h
      subst h
      exact both (by simp) (by simp) (by simp) (by simp) (by simp) (by simp) (by simp) (by simp) (fun D => by simp [Op.equalIn, run_underlying hu])
  case nilFunc.nilFunc =>
    rw [VRel] at ha hb; subst ha; subst hb
    cases hu : P.underlying t with
    | none => simp [hu] at h
    | some d =>
      cases d <;> simp only [hu, Option.some.injEq, reduceCtorEq] at h
      subst h
      exact both (by simp) (by simp) (by simp) (by simp) (by simp) (by simp) (by simp) (by simp) (fun D => by simp [Op.equalIn, run_underlying hu])
  case iface.nilIface =>
    rw [VRel] at hb; subst hb
    obtain ⟨a', rfl, _⟩ := ha
    cases hu : P.underlying t with
    | none => simp [hu] at h
    | some d =>
      cases d <;> simp only [hu, Option.some.injEq, reduceCtorEq] at h
      subst h
      exact both (by simp) (by simp) (by simp) (by simp) (by simp) (by simp) (by simp) (by simp) (fun D => by simp [Op.equalIn, run_underlying hu])
  case nilIface.iface =>
    rw [VRel] at ha; subst ha
    obtain ⟨a', rfl, _⟩ := hb
    cases hu : P.underlying t with
    | none => simp [hu] at h
    | some d =>
      cases d <;> simp only [hu, Option.some.injEq, reduceCtorEq] at h
      subst h
      exact both (by simp) (by simp) (by simp) (by simp) (by simp) (by simp) (by simp) (by simp) (fun D => by simp [Op.equalIn, run_underlying hu])
  case nilIface.nilIface =>
    rw [VRel] at ha hb; subst ha; subst hb
    cases hu : P.underlying t with
    | none => simp [hu] at h
    | some d =>
      cases d <;> simp only [hu, reduceCtorEq] at h
      cases hc : (isC x || isC y) with
      | false => simp [hc] at h
      | true =>
        simp [hc] at h
        subst h
        exact ⟨guard_nilIface hc, fin _ _ (by simp) (by simp) (by simp) (by simp) (by simp) (by simp) (equal_nilIface hu)⟩
  case agg.agg a b =>
    obtain ⟨u, rfl, ha⟩ := ha
    obtain ⟨v, rfl, hb⟩ := hb
    cases hu : P.underlying t with
    | none => simp [hu] at h
    | some d =>
      cases d <;> simp only [hu, reduceCtorEq] at h
      case struct fs =>
        cases hl : leafT P 8 t with
        | none => simp [hl] at h
        | some ls =>
          simp only [hl] at h
          have hd : 8 ≤ P.depth := by unfold Program.depth Made.depth; omega
          refine ⟨run_eqGuard_agg w op t x y u v (leaf_guard 8 hl _ hd), fin _ _ (by simp) (by simp) (by simp) (by simp) (by simp) (by simp) (equal_agg hu hl h ha hb)⟩
theorem binA_sound {op : BinOp} {t : TypeId} {x y : Operand} {a b c : AV} {u v : Value} {μ : Inj} {w : World} (h : binA P op t (isC x || isC y) a b = some c) (ha : VRel μ a u) (hb : VRel μ b v) :
    ∃ z, (do eqGuard op t x y u v; binOp op t u v : Sem Value).run P w = .ok z w ∧ VRel μ c z := by
  have plain : op ≠ .eql → op ≠ .neq → (eqGuard op t x y u v).run P w = .ok () w := fun h1 h2 => by
    cases op <;> first | rfl | (exact absurd rfl h1) | (exact absurd rfl h2)
  have scal : (∃ k i, a = .int k i) ∨ (∃ s, a = .str s) → (eqGuard op t x y u v).run P w = .ok () w := fun hs => by
    refine eqGuard_none ?_ ?_
    · rintro ⟨rfl, rfl⟩; rcases hs with ⟨k, i, rfl⟩ | ⟨s, rfl⟩
      · rw [VRel] at ha; cases ha
      · obtain ⟨_, h, _⟩ := ha; cases h
    · rintro u' v' ⟨rfl, rfl⟩; rcases hs with ⟨k, i, rfl⟩ | ⟨s, rfl⟩
      · rw [VRel] at ha; cases ha
      · obtain ⟨_, h, _⟩ := ha; cases h
  unfold binA at h
  split at h
  · rename_i k i l j
    rw [VRel] at ha hb; subst ha; subst hb
    obtain ⟨z, hz, hr⟩ := shiftA_sound (P := P) (t := t) (w := w) (yk := l) (.inl rfl) h
    exact ⟨z, by simp only [Sem.run_bind, plain (by simp) (by simp), Result.andThen_ok, hz], hr μ⟩
  · rename_i k i l j
    rw [VRel] at ha hb; subst ha; subst hb
    obtain ⟨z, hz, hr⟩ := shiftA_sound (P := P) (t := t) (w := w) (yk := l) (.inr rfl) h
    exact ⟨z, by simp only [Sem.run_bind, plain (by simp) (by simp), Result.andThen_ok, hz], hr μ⟩
  · rename_i k i l j _ _
    have hsc := scal (.inl ⟨_, _, rfl⟩)
    rw [VRel] at ha hb; subst ha; subst hb
    by_cases hk : k = l
    · subst hk
      simp only [beq_self_eq_true, cond] at h
      obtain ⟨z, hz, hr⟩ := intBin_sound (P := P) (t := t) (w := w) h
      exact ⟨z, by simp only [Sem.run_bind, hsc, Result.andThen_ok, hz], hr μ⟩
    · rw [show (k == l) = false from beq_eq_false_iff_ne.2 hk] at h; cases h
  · have hsc := scal (.inr ⟨_, rfl⟩)
    obtain ⟨u, rfl, rfl⟩ := ha
    obtain ⟨v, rfl, rfl⟩ := hb
    obtain ⟨z, hz, hr⟩ := strBin_sound (P := P) (t := t) (w := w) h
    exact ⟨z, by simp only [Sem.run_bind, hsc, Result.andThen_ok, hz], hr μ⟩
  · rename_i hi hs
    cases he : eqC P (isC x || isC y) t a b with
    | none => simp [he] at h
    | some r =>
      simp [he] at h; subst h
      obtain ⟨h1, h2⟩ := eqC_sound (op := .eql) (w := w) he ha hb (.inl rfl) (fun k l i j e => hi k i l j e.1 e.2) (fun k l e => hs k l e.1 e.2)
      exact ⟨.bool r, by simp only [Sem.run_bind, h1, Result.andThen_ok, h2]; rfl, by rw [VRel]⟩
  · rename_i hi hs
    cases he : eqC P (isC x || isC y) t a b with
    | none => simp [he] at h
    | some r =>
      simp [he] at h; subst h
      obtain ⟨h1, h2⟩ := eqC_sound (op := .neq) (w := w) he ha hb (.inr rfl) (fun k l i j e => hi k i l j e.1 e.2) (fun k l e => hs k l e.1 e.2)
      exact ⟨.bool !r, by simp only [Sem.run_bind, h1, Result.andThen_ok, h2]; rfl, by rw [VRel]⟩
  · cases h

theorem unA_sound {op : UnOp} {a b : AV} {u : Value} {μ : Inj} {w : World} (h : unA op a = some b) (ha : VRel μ a u) : ∃ z, (Op.unary op u).run P w = .ok z w ∧ VRel μ b z := by
  unfold unA at h
  split at h
  · rw [VRel] at ha; subst ha
    cases h
    exact ⟨_, rfl, by rw [VRel, wrapA_eq]⟩
  · rw [VRel] at ha; subst ha
    simp only [bitsA, Option.some.injEq] at h
    subst h
    exact ⟨_, rfl, by rw [VRel]⟩
  · rw [VRel] at ha; subst ha
    cases h
    exact ⟨_, rfl, by rw [VRel]⟩
  · cases h
end Go.Am
/- The abstract machine against the model: operations on memory. -/
namespace Go.Am

variable {P : Program}

/-- An operation that hands back a value. -/
def MeetsV (P : Program) (μ : Inj) (h : AHeap) (w : World) (r : Res AV) (s : Sem Value) : Prop :=
  ∃ a h' μ' v w', r = .ok a h' ∧ s.run P w = .ok v w' ∧ Rel μ' h' w' ∧ Ext μ h w μ' h' w' ∧ VRel μ' a v

theorem MeetsV.same {μ : Inj} {h : AHeap} {w : World} {r : Res AV} {s : Sem Value} (hr : Rel μ h w) {a : AV} {v : Value} (h1 : r = .ok a h) (h2 : s.run P w = .ok v w) (h3 : VRel μ a v) : MeetsV P μ h w r s :=
  ⟨a, h, μ, v, w, h1, h2, hr, Ext.refl, h3⟩

/-- An operation that leaves all that was, as it was. -/
def Grown (w w' : World) : Prop := (∃ x : Array Obj, w'.heap = w.heap ++ x) ∧ w'.os = w.os ∧ w'.output = w.output
theorem Grown.refl (w : World) : Grown w w := ⟨⟨#[], by simp⟩, rfl, rfl⟩
theorem Grown.push {w w' : World} {o : Obj} (h : w'.heap = w.heap.push o) (h1 : w'.os = w.os) (h2 : w'.output = w.output) : Grown w w' := ⟨⟨#[o], by rw [h]; simp⟩, h1, h2⟩
/-- An operation that changes nothing. -/
def MeetsS (P : Program) (μ : Inj) (h : AHeap) (w : World) (r : Res AV) (s : Sem Value) : Prop := ∃ a v, r = .ok a h ∧ s.run P w = .ok v w ∧ VRel μ a v
theorem MeetsS.same {μ : Inj} {h : AHeap} {w : World} {r : Res AV} {s : Sem Value} {a : AV} {v : Value} (h1 : r = .ok a h) (h2 : s.run P w = .ok v w) (h3 : VRel μ a v) : MeetsS P μ h w r s := ⟨a, v, h1, h2, h3⟩
theorem MeetsS.toV {μ : Inj} {h : AHeap} {w : World} {r : Res AV} {s : Sem Value} (hr : Rel μ h w) (hm : MeetsS P μ h w r s) : MeetsV P μ h w r s := by
  obtain ⟨a, v, e1, e2, e3⟩ := hm
  exact MeetsV.same hr e1 e2 e3

/-- a new block of the abstract machine -/
def newBlk (h : AHeap) (o : AObj) (fl : Bool) : AHeap := { next := h.next + 1, objs := h.objs.set h.next o, fams := cond fl (h.fams.set h.next (0, 0)) h.fams }
/-- what a new block of the model holds -/
inductive Cont (μ : Inj) (b : Nat) : AObj → Bool → Obj → Nat → Prop where
  | solo {cs : List AV} {c : Array Value} {e : TypeId} {fz : Nat × Nat} (h1 : cs.length = c.size) (h2 : CellsRel μ cs c 0) (h3 : Warm fz c.size) : Cont μ b (.solo cs) false (.cells c e fz) c.size
  | row {cs : List AV} {c : Array Value} {e : TypeId} {fz : Nat × Nat} (h1 : cs.length ≤ c.size) (h2 : CellsRel μ cs c 0) (h3 : Warm fz c.size) : Cont μ b (.row cs b 0) true (.cells c e fz) c.size
  | map {clock : Nat} : Cont μ b (.map []) false (.map #[] clock) 0
theorem Cont.mono {μ μ' : Inj} (hm : μ.le μ') {b : Nat} {o : AObj} {fl : Bool} {x : Obj} {S : Nat} (h : Cont μ b o fl x S) : Cont μ' b o fl x S := by
  cases h with
  | solo h1 h2 h3 => exact .solo h1 (h2.mono hm) h3
  | row h1 h2 h3 => exact .row h1 (h2.mono hm) h3
  | map => exact .map
/-- An operation that makes a new block, or only garbage. -/
def MeetsN (P : Program) (μ : Inj) (h : AHeap) (w : World) (r : Res AV) (s : Sem Value) : Prop :=
  (∃ a v w', r = .ok a h ∧ s.run P w = .ok v w' ∧ VRel μ a v ∧ Grown w w') ∨
  ∃ (av : Nat → AV) (v : Value) (w' : World) (o : AObj) (fl : Bool) (x : Obj) (S : Nat), r = .ok (av h.next) (newBlk h o fl) ∧ s.run P w = .ok v w' ∧ w'.heap = w.heap.push x ∧ w'.os = w.os ∧ w'.output = w.output ∧
    Cont μ h.next o fl x S ∧ ∀ μ' b, μ' b = some (w.heap.size, 0, S) → VRel μ' (av b) v
theorem MeetsS.toN {μ : Inj} {h : AHeap} {w : World} {r : Res AV} {s : Sem Value} (hm : MeetsS P μ h w r s) : MeetsN P μ h w r s := by
  obtain ⟨a, v, e1, e2, e3⟩ := hm
  exact .inl ⟨a, v, w, e1, e2, e3, Grown.refl w⟩
theorem Grown.rel {μ : Inj} {h : AHeap} {w w' : World} (hr : Rel μ h w) (hg : Grown w w') : Rel μ h w' ∧ Ext μ h w μ h w' := by
  obtain ⟨⟨x, hx⟩, hos, hout⟩ := hg
  have lt : ∀ C, C < w.heap.size → w'.heap[C]? = w.heap[C]? := fun C hC => by rw [hx, Array.getElem?_append_left hC]
  exact ⟨{ obj := fun b C d S hm => by
             obtain ⟨i1, i2, o, i3, i4⟩ := hr.obj b C d S hm
             exact ⟨i1, by rw [hx]; simp; omega, o, i3, ObjRel.congr (h := h) (w := w) (lt C i2) (fun _ _ => rfl) i4⟩
           sep := hr.sep
           ver := hr.ver
           ord := hr.ord
           fid := hr.fid },
         { sub := Inj.le_refl _
           newA := fun _ _ h => .inl h
           newC := fun _ _ _ _ h h' => by rw [h] at h'; cases h'
           next := Nat.le_refl _
           size := by rw [hx]; simp
           frC := fun C hC _ => lt C hC
           frA := fun _ _ _ => ⟨rfl, rfl⟩
           ro := fun _ _ _ _ => rfl
           os := hos
           output := hout }⟩
theorem MeetsN.toV {μ : Inj} {h : AHeap} {w : World} {r : Res AV} {s : Sem Value} (hr : Rel μ h w) (hm : MeetsN P μ h w r s) : MeetsV P μ h w r s := by
  rcases hm with ⟨a, v, w', e1, e2, e3, e4⟩ | ⟨av, v, w', o, fl, x, S, e1, e2, e3, e4, e5, e6, e7⟩
  · exact ⟨a, h, μ, v, w', e1, e2, (e4.rel hr).1, (e4.rel hr).2, e3⟩
  · have key : (Rel (addInj μ h.next (w.heap.size, 0, S)) (newBlk h o fl) w' ∧ Ext μ h w (addInj μ h.next (w.heap.size, 0, S)) (newBlk h o fl) w') := by
      cases e6 with
      | solo h1 h2 h3 =>
        exact hr.alloc e3 e4 e5 (.inl ⟨fun _ _ _ e => by simp at e, rfl⟩) ⟨rfl, _, _, _, heap_push_new e3, rfl, h1, h2.mono (hr.le_add _), h3⟩
      | row h1 h2 h3 =>
        exact hr.alloc e3 e4 e5 (.inr ⟨⟨_, rfl⟩, rfl⟩) ⟨0, 0, Tr.get_set_same _ _ _, ⟨Nat.le_refl _, Nat.le_refl _⟩, _, _, _, heap_push_new e3, rfl, fun _ => ⟨by omega, h2.mono (hr.le_add _), h3⟩⟩
      | map =>
        exact hr.alloc e3 e4 e5 (.inl ⟨fun _ _ _ e => by simp at e, rfl⟩) ⟨rfl, _, _, heap_push_new e3, rfl⟩
    exact ⟨_, _, _, v, w', e1, e2, key.1, key.2, e7 _ _ (addInj_same _ _ _)⟩

/- ### tables -/
theorem zeroCells_sound {t : TypeId} {cs : List AV} (h : zeroCellsA P t = some cs) (w : World) : ∃ v, (zeroValue t).run P w = .ok v w ∧ (∀ μ, VRels μ cs v.cells.toList) ∧ cs.length = P.cellsOf t ∧ cs.all AV.isCell = true := by
  unfold zeroCellsA zeroA at h
  cases hi : P.info? t with
  | none => simp [hi] at h
  | some i =>
    simp only [hi] at h
    cases hz : i.zero with
    | none => simp [hz] at h
    | some v =>
      simp only [hz] at h
      cases hc : (absV v).cells? with
      | none => simp [hc] at h
      | some cs' =>
        simp only [hc] at h
        cases hb : (Nat.beq cs'.length (P.cellsOf t) && cs'.all AV.isCell) with
        | false => rw [hb] at h; cases h
        | true =>
          rw [hb] at h; simp only [cond, Option.some.injEq] at h; subst h
          rw [Bool.and_eq_true] at hb
          exact ⟨v, by simp [zeroValue, typeInfo, hi, hz], fun μ => cells_of hc (absV_rel μ v), Nat.eq_of_beq_eq_true hb.1, hb.2⟩
theorem zeroA_sound {t : TypeId} {z : AV} (h : zeroA P t = some z) (w : World) : ∃ v, (zeroValue t).run P w = .ok v w ∧ ∀ μ, VRel μ z v := by
  unfold zeroA at h
  cases hi : P.info? t with
  | none => simp [hi] at h
  | some i =>
    simp only [hi] at h
    cases hz : i.zero with
    | none => simp [hz] at h
    | some v =>
      simp only [hz, Option.some.injEq] at h; subst h
      exact ⟨v, by simp [zeroValue, typeInfo, hi, hz], fun μ => absV_rel μ v⟩

theorem info_of_cells {t : TypeId} (h : 1 ≤ P.cellsOf t) : ∃ i, P.info? t = some i ∧ i.size = P.cellsOf t ∧ i.bytes = P.bytesOf t := by
  unfold Program.cellsOf Program.bytesOf at *
  cases hi : P.info? t with
  | none => simp [hi] at h
  | some i => exact ⟨i, rfl, by simp, by simp⟩
theorem sizeOf_run {t : TypeId} (h : 1 ≤ P.cellsOf t) (w : World) : (sizeOf t).run P w = .ok (P.cellsOf t) w := by
  obtain ⟨i, hi, hs, _⟩ := info_of_cells h
  simp [sizeOf, typeInfo, hi, hs]
theorem info_of_underlying {t : TypeId} {d : TypeDesc} (h : P.underlying t = some d) : ∃ i, P.info? t = some i := by
  unfold Program.underlying at h
  cases hi : P.info? t with
  | none => simp [hi] at h
  | some i => exact ⟨i, rfl⟩
theorem isAgg_run {t : TypeId} {b : Bool} (h : isAggT P t = some b) (w : World) : (isAgg t).run P w = .ok b w := by
  unfold isAggT at h
  cases hu : P.underlying t with
  | none => simp [hu] at h
  | some d =>
    simp only [isAgg, Sem.run_bind, run_underlying hu, Result.andThen_ok]
    cases d <;> simp [hu] at h <;> subst h <;> rfl

/- ### new variables -/
theorem cellsRel_of {μ : Inj} {cs : List AV} {c : Array Value} (h : VRels μ cs c.toList) : CellsRel μ cs c 0 := fun i v hv => by
  obtain ⟨u, hu, hr⟩ := h.get hv
  exact ⟨u, by simpa using hu, hr⟩

theorem nw_sound {μ : Inj} {h : AHeap} {w : World} {cs : List AV} {t : TypeId} {v : Value} (hv : VRels μ cs v.cells.toList) (hb : nw cs h ≠ .bad) :
    MeetsN P μ h w (nw cs h) (do pure (.pointer (some (← newVar t v)))) := by
  unfold nw at *
  cases hc : cs.all AV.isCell with
  | false => rw [hc] at hb; exact absurd rfl hb
  | true =>
    have hl : cs.length = v.cells.size := by simpa using hv.length
    exact .inr ⟨fun b => .ptr (some ⟨b, 0⟩), .pointer (some ⟨w.heap.size, 0, none⟩), w.alloc (.cells v.cells t), .solo cs, false, .cells v.cells t, v.cells.size, rfl, by simp [newVar, newRow], rfl, rfl, rfl,
      .solo hl (cellsRel_of hv) (.inl rfl), fun μ' b hb => ⟨w.heap.size, 0, v.cells.size, hb, rfl⟩⟩

theorem alloc_sound {μ : Inj} {h : AHeap} {w : World} {t : TypeId} {cs : List AV} (hz : zeroCellsA P t = some cs) (hb : nw cs h ≠ .bad) : MeetsN P μ h w (nw cs h) (Instr.alloc t true (.tuple #[])) := by
  obtain ⟨v, h1, h2, _⟩ := zeroCells_sound hz w
  have e : (Instr.alloc t true (.tuple #[])).run P w = (do pure (.pointer (some (← newVar t v))) : Sem Value).run P w := by
    simp only [Instr.alloc, Sem.run_bind, h1, Result.andThen_ok]
  have := nw_sound (P := P) (w := w) (t := t) (h2 μ) hb
  unfold MeetsN at this ⊢
  rw [e]; exact this

theorem box_sound {μ : Inj} {h : AHeap} {w : World} {t : TypeId} {a : AV} {v : Value} {cs : List AV} (hv : VRel μ a v) (hc : a.cells? = some cs) (hb : nw cs h ≠ .bad) : MeetsN P μ h w (nw cs h) (Instr.box t v) :=
  nw_sound (cells_of hc hv) hb

/- ### the array of a new slice -/
theorem nwRow_sound {μ : Inj} {h : AHeap} {w w' : World} {s : Sem Value} {cs : List AV} {c : Array Value} {t : TypeId} {fz : Nat × Nat} {n cap es : Nat} (hrun : s.run P w = .ok (.slice (some ⟨w.heap.size, 0, none⟩) n cap) w') (hv : CellsRel μ cs c 0) (hl : cs.length ≤ c.size)
    (hw : w'.heap = w.heap.push (.cells c t fz)) (hos : w'.os = w.os) (hout : w'.output = w.output) (hfz : Warm fz c.size) (hn : n ≤ cap) (hcap : cap * es ≤ c.size) (hb : nwRow cs n es h ≠ .bad) : MeetsN P μ h w (nwRow cs n es h) s := by
  unfold nwRow at *
  cases hc : (cs.all AV.isCell && Nat.ble (n * es) cs.length && Nat.ble 1 es) with
  | false => rw [hc] at hb; exact absurd rfl hb
  | true =>
    rw [Bool.and_eq_true, Bool.and_eq_true] at hc
    exact .inr ⟨fun b => .sl b 0 n es, _, w', .row cs h.next 0, true, .cells c t fz, c.size, rfl, hrun, hw, hos, hout, .row hl hv hfz,
      fun μ' b hb => ⟨w.heap.size, 0, c.size, _, cap, hb, rfl, hn, Nat.le_of_ble_eq_true hc.2, .inl ⟨rfl, by omega⟩⟩⟩

/- ### loads -/
theorem ld_sound {μ : Inj} {h : AHeap} {w : World} (hr : Rel μ h w) {a : AV} {v : Value} {t : TypeId} (ht : isAggT P t = some false) (hv : VRel μ a v) (hb : ld a h ≠ .bad) : MeetsS P μ h w (ld a h) (Instr.loadAt t v) := by
  unfold ld at *
  split at hb
  · rename_i b o
    obtain ⟨C, d, S, hm, rfl⟩ := hv
    simp only at hm
    split at hb
    · rename_i cs hcs
      split at hb
      · rename_i x hx
        obtain ⟨c, e, fz, h1, h2, h3, h4⟩ := hr.readable hm hcs
        obtain ⟨u, hu, hru⟩ := h4 o x hx
        refine MeetsS.same (a := x) (v := u) rfl ?_ hru
        simp only [Instr.loadAt, Instr.sureAddr, Sem.run_bind, Sem.run_pure, Result.andThen_ok, loadVar, isAgg_run ht, Bool.false_eq_true, if_false, run_load]
        rw [cell_of h1, hu]
      · exact absurd rfl hb
    · exact absurd rfl hb
  · exact absurd rfl hb
theorem ldN_sound {μ : Inj} {h : AHeap} {w : World} (hr : Rel μ h w) {a : AV} {v : Value} {t : TypeId} (ht : isAggT P t = some true) (h1 : 1 ≤ P.cellsOf t) (hv : VRel μ a v) (hb : ldN (P.cellsOf t) a h ≠ .bad) :
    MeetsS P μ h w (ldN (P.cellsOf t) a h) (Instr.loadAt t v) := by
  unfold ldN at *
  split at hb
  · rename_i b o
    obtain ⟨C, d, S, hm, rfl⟩ := hv
    simp only at hm
    split at hb
    · rename_i l hl
      obtain ⟨us, hu, hru⟩ := hr.read (P := P) hm hl
      refine MeetsS.same (a := .agg l) (v := .agg us.toArray) rfl ?_ ⟨us.toArray, rfl, by simpa using hru⟩
      simp only [Instr.loadAt, Instr.sureAddr, Sem.run_bind, Sem.run_pure, Result.andThen_ok, loadVar, isAgg_run ht, if_true, sizeOf_run h1, hu]
    · exact absurd rfl hb
  · exact absurd rfl hb

/- ### stores -/
theorem storeVar_run {t : TypeId} {a : Addr} {v : Value} {w w' : World} (h : (storeCells a v.cells.toList).run P w = .ok () w') (hs : P.cellsOf t = v.cells.size) (h1 : 1 ≤ P.cellsOf t) : (storeVar t a v).run P w = .ok () w' := by
  have h2 : ¬ (v.cells.size ≠ P.cellsOf t) := fun h => h hs.symm
  simp only [storeVar, Sem.run_bind, sizeOf_run h1, Result.andThen_ok, h2, if_false]
  simpa using h

/-- A store: nothing is handed back. -/
def MeetsU (P : Program) (μ : Inj) (h : AHeap) (w : World) (r : Res AV) (s : Sem Unit) : Prop := ∃ h' μ' w', r = .ok undefA h' ∧ s.run P w = .ok () w' ∧ Rel μ' h' w' ∧ Ext μ h w μ' h' w'

theorem cells_one {μ : Inj} {x : AV} {v : Value} (hx : x.isCell = true) (hv : VRel μ x v) : v.cells = #[v] := by
  have := AV.isCell_oneCell hx hv
  cases v <;> first | rfl | (simp [Value.oneCell'] at this)

theorem st_sound {μ : Inj} {h : AHeap} {w : World} (hr : Rel μ h w) {a x : AV} {u v : Value} {t : TypeId} (ht : P.cellsOf t = 1) (ha : VRel μ a u) (hx : VRel μ x v) (hb : unit2 (st a x) h ≠ .bad) :
    MeetsU P μ h w (unit2 (st a x) h) (Instr.storeAt t u v) := by
  have hst : st a x h ≠ .bad := fun e => hb (by simp [unit2, AM.bind, e])
  unfold st at hst
  split at hst
  · rename_i b o
    obtain ⟨C, d, S, hm, rfl⟩ := ha
    simp only at hm
    cases hc : x.isCell with
    | false => rw [hc] at hst; exact absurd rfl hst
    | true =>
      rw [hc] at hst
      simp only [cond] at hst
      cases hw : wr b o [x] h with
      | none => rw [hw] at hst; exact absurd rfl hst
      | some h' =>
        obtain ⟨g1, g2, g3⟩ := hr.write (P := P) (us := [v]) hm hw ⟨v, [], rfl, hx, rfl⟩ (by simpa using AV.isCell_oneCell hc hx)
        refine ⟨h', μ, _, by simp [unit2, AM.bind, st, hc, hw, AM.ret], ?_, g2, g3⟩
        simp only [Instr.storeAt, Instr.sureAddr, Sem.run_bind, Sem.run_pure, Result.andThen_ok]
        have hcv := cells_one hc hx
        exact storeVar_run (by rw [hcv]; exact g1) (by rw [hcv]; exact ht) (by omega)
  · exact absurd rfl hst
theorem stN_sound {μ : Inj} {h : AHeap} {w : World} (hr : Rel μ h w) {a x : AV} {u v : Value} {t : TypeId} (h1 : 1 ≤ P.cellsOf t) (ha : VRel μ a u) (hx : VRel μ x v) (hb : unit2 (stN (P.cellsOf t) a x) h ≠ .bad) :
    MeetsU P μ h w (unit2 (stN (P.cellsOf t) a x) h) (Instr.storeAt t u v) := by
  have hst : stN (P.cellsOf t) a x h ≠ .bad := fun e => hb (by simp [unit2, AM.bind, e])
  unfold stN at hst
  split at hst
  · rename_i b o cs
    obtain ⟨C, d, S, hm, rfl⟩ := ha
    simp only at hm
    obtain ⟨us, rfl, hus⟩ := hx
    cases hc : (Nat.beq cs.length (P.cellsOf t) && cs.all AV.isCell) with
    | false => rw [hc] at hst; exact absurd rfl hst
    | true =>
      have hc' := hc
      rw [hc] at hst
      rw [Bool.and_eq_true] at hc'
      simp only [cond] at hst
      cases hw : wr b o cs h with
      | none => rw [hw] at hst; exact absurd rfl hst
      | some h' =>
        obtain ⟨g1, g2, g3⟩ := hr.write (P := P) hm hw hus (all_oneCell hc'.2 hus)
        have hlen := hus.length
        refine ⟨h', μ, _, by simp only [unit2, AM.bind, stN, hc, cond, hw, AM.ret], ?_, g2, g3⟩
        simp only [Instr.storeAt, Instr.sureAddr, Sem.run_bind, Sem.run_pure, Result.andThen_ok]
        exact storeVar_run g1 (by simp at hlen; rw [← Nat.eq_of_beq_eq_true hc'.1, hlen]; rfl) h1
  · exact absurd rfl hst

/- ### addresses -/
theorem faddr_sound {μ : Inj} {h : AHeap} {a : AV} {v : Value} {k : Nat} (ha : VRel μ a v) (hb : faddr k a h ≠ .bad) :
    ∃ (C d S b o : Nat), a = .ptr (some ⟨b, o⟩) ∧ v = .pointer (some ⟨C, d + o, none⟩) ∧ μ b = some (C, d, S) ∧ faddr k a h = .ok (.ptr (some ⟨b, o + k⟩)) h ∧ VRel μ (.ptr (some ⟨b, o + k⟩)) (.pointer (some ⟨C, d + o + k, none⟩)) := by
  cases a <;> try (exact absurd rfl hb)
  case ptr a => cases a with
    | none => exact absurd rfl hb
    | some l =>
      obtain ⟨C, d, S, hm, rfl⟩ := ha
      exact ⟨C, d, S, l.b, l.o, rfl, rfl, hm, rfl, C, d, S, hm, by simp [Nat.add_assoc]⟩

theorem fieldAddr_sound {μ : Inj} {h : AHeap} {w : World} {s : TypeId} {a : AV} {v : Value} {f : Nat} (ha : VRel μ a v) (hb : fieldAddrA P s a f h ≠ .bad) : MeetsS P μ h w (fieldAddrA P s a f h) (Instr.fieldAt s v f) := by
  unfold fieldAddrA at *
  rcases hu : P.underlying s with _ | d
  · rw [hu] at hb; exact absurd rfl hb
  · cases d <;> simp only [hu] at hb ⊢ <;> try (exact absurd rfl hb)
    case struct fs =>
      rcases hf : fs[f]? with _ | fd
      · rw [hf] at hb; exact absurd rfl hb
      · simp only [hf] at hb ⊢
        cases hc : Nat.ble 1 (P.cellsOf fd.type) with
        | false => rw [hc] at hb; exact absurd rfl hb
        | true =>
          have h1 := Nat.le_of_ble_eq_true hc
          rw [hc] at hb
          obtain ⟨C, d, S, b, o, rfl, rfl, _, e1, e2⟩ := faddr_sound ha hb
          refine MeetsS.same e1 ?_ e2
          have hne : ¬ (P.cellsOf fd.type = 0) := by omega
          simp only [Instr.fieldAt, Sem.run_bind, run_underlying hu, Result.andThen_ok, hf, Instr.sureAddr, Sem.run_pure, fieldPlace, sizeOf_run h1, hne, if_false, addr_add]

theorem iaddrS_inv {es : Nat} {a i : AV} {h : AHeap} (hb : iaddrS es a i h ≠ .bad) : ∃ b o n k j, a = .sl b o n es ∧ i = .int k j ∧ 0 ≤ j ∧ j < (n : Int) ∧ iaddrS es a i h = .ok (.ptr (some ⟨b, o + j.toNat * es⟩)) h := by
  cases a <;> try (exact absurd rfl hb)
  case sl b o n es' =>
    cases i <;> try (exact absurd rfl hb)
    case int k j =>
      cases hcc : (Nat.beq es es' && decide (0 ≤ j) && decide (j < Int.ofNat n)) with
      | false => simp only [iaddrS, hcc] at hb; exact absurd rfl hb
      | true =>
        have hcc' := hcc
        simp only [Bool.and_eq_true, decide_eq_true_eq] at hcc'
        obtain ⟨⟨q1, q2⟩, q3⟩ := hcc'
        obtain rfl := Nat.eq_of_beq_eq_true q1
        exact ⟨b, o, n, k, j, rfl, rfl, q2, q3, by simp only [iaddrS, hcc]; rfl⟩
theorem iaddrA_inv {len es : Nat} {a i : AV} {h : AHeap} (hb : iaddrA len es a i h ≠ .bad) : ∃ b o k j, a = .ptr (some ⟨b, o⟩) ∧ i = .int k j ∧ 0 ≤ j ∧ j < (len : Int) ∧ iaddrA len es a i h = .ok (.ptr (some ⟨b, o + j.toNat * es⟩)) h := by
  cases a <;> try (exact absurd rfl hb)
  case ptr a => cases a with
    | none => exact absurd rfl hb
    | some l =>
      obtain ⟨b, o⟩ := l
      cases i <;> try (exact absurd rfl hb)
      case int k j =>
        cases hcc : (decide (0 ≤ j) && decide (j < Int.ofNat len)) with
        | false => simp only [iaddrA, hcc] at hb; exact absurd rfl hb
        | true =>
          have hcc' := hcc
          simp only [Bool.and_eq_true, decide_eq_true_eq] at hcc'
          exact ⟨b, o, k, j, rfl, rfl, hcc'.1, hcc'.2, by simp only [iaddrA, hcc]; rfl⟩

theorem indexAddr_sound {μ : Inj} {h : AHeap} {w : World} {t : TypeId} {a i : AV} {u v : Value} (ha : VRel μ a u) (hi : VRel μ i v) (hb : indexAddrA P t a i h ≠ .bad) : MeetsS P μ h w (indexAddrA P t a i h) (Instr.indexAt t u v) := by
  unfold indexAddrA at *
  rcases hu : P.underlying t with _ | d
  · rw [hu] at hb; exact absurd rfl hb
  · cases d <;> simp only [hu] at hb ⊢ <;> try (exact absurd rfl hb)
    case slice e =>
      cases hc : Nat.ble 1 (P.cellsOf e) with
      | false => rw [hc] at hb; exact absurd rfl hb
      | true =>
        have h1 := Nat.le_of_ble_eq_true hc
        rw [hc] at hb
        obtain ⟨b, o, n, k, j, rfl, rfl, q2, q3, e1⟩ := iaddrS_inv hb
        rw [VRel] at hi; subst hi
        obtain ⟨C, d, S, a, cap, hm, rfl, hn, hes, hloc⟩ := ha
        rcases hloc with ⟨rfl, hS⟩ | ⟨hz, _⟩
        · refine MeetsS.same (v := .pointer (some ⟨C, d + o + j.toNat * P.cellsOf e, none⟩)) e1 ?_ ⟨C, d, S, hm, by simp [Nat.add_assoc]⟩
          simp only [Instr.indexAt, asIntOf, Sem.run_bind, Sem.run_pure, Result.andThen_ok, run_underlying hu]
          simp [q2, q3, sizeOf_run h1, addr_add]
        · omega
    case array n e =>
      cases hc : Nat.ble 1 (P.cellsOf e) with
      | false => rw [hc] at hb; exact absurd rfl hb
      | true =>
        have h1 := Nat.le_of_ble_eq_true hc
        rw [hc] at hb
        obtain ⟨b, o, k, j, rfl, rfl, q2, q3, e1⟩ := iaddrA_inv hb
        rw [VRel] at hi; subst hi
        obtain ⟨C, d, S, hm, rfl⟩ := ha
        refine MeetsS.same (v := .pointer (some ⟨C, d + o + j.toNat * P.cellsOf e, none⟩)) e1 ?_ ⟨C, d, S, hm, by simp [Nat.add_assoc]⟩
        simp only [Instr.indexAt, asIntOf, Sem.run_bind, Sem.run_pure, Result.andThen_ok, run_underlying hu, Instr.sureAddr]
        simp [q2, q3, sizeOf_run h1, addr_add]
end Go.Am
/- The abstract machine against the model: parts, indices, slices, conversions. -/
namespace Go.Am

variable {P : Program}

/- ### parts -/
theorem partA_sound {μ : Inj} {h : AHeap} {w : World} {t : TypeId} {o : Nat} {a : AV} {v : Value} (ha : VRel μ a v) (hb : partA P t o a h ≠ .bad) :
    ∃ us : Array Value, v = .agg us ∧ MeetsS P μ h w (partA P t o a h) (part t us o) := by
  unfold partA at *
  rcases ht : isAggT P t with _ | b
  · rw [ht] at hb; exact absurd rfl hb
  · cases b with
    | true =>
      simp only [ht] at hb ⊢
      cases hc : Nat.ble 1 (P.cellsOf t) with
      | false => rw [hc] at hb; exact absurd rfl hb
      | true =>
        rw [hc] at hb
        cases a <;> try (exact absurd rfl hb)
        case agg cs =>
          obtain ⟨us, rfl, hus⟩ := ha
          refine ⟨us, rfl, MeetsS.same (a := .agg ((cs.drop o).take (P.cellsOf t))) (v := .agg (us.extract o (o + P.cellsOf t))) rfl ?_ ⟨_, rfl, ?_⟩⟩
          · simp only [part, Sem.run_bind, isAgg_run ht, Result.andThen_ok, if_true, sizeOf_run (Nat.le_of_ble_eq_true hc), Sem.run_pure]
          · have := (hus.drop o).take (P.cellsOf t)
            simpa [List.take_drop] using this
    | false =>
      simp only [ht] at hb ⊢
      cases a <;> try (exact absurd rfl hb)
      case agg cs =>
        obtain ⟨us, rfl, hus⟩ := ha
        refine ⟨us, rfl, ?_⟩
        simp only [part1] at hb ⊢
        rcases hx : cs[o]? with _ | x
        · rw [hx] at hb; exact absurd rfl hb
        · obtain ⟨u, hu, hru⟩ := hus.get hx
          refine MeetsS.same (a := x) (v := u) rfl ?_ hru
          have hu' : us[o]? = some u := by simpa using hu
          simp only [part, Sem.run_bind, isAgg_run ht, Result.andThen_ok, Bool.false_eq_true, if_false, hu', Sem.run_pure]

theorem fieldA_sound {μ : Inj} {h : AHeap} {w : World} {t : TypeId} {a : AV} {v : Value} {f : Nat} (ha : VRel μ a v) (hb : fieldA P t a f h ≠ .bad) : MeetsS P μ h w (fieldA P t a f h) (Instr.field t v f) := by
  unfold fieldA at *
  rcases hu : P.underlying t with _ | d
  · rw [hu] at hb; exact absurd rfl hb
  · cases d <;> simp only [hu] at hb ⊢ <;> try (exact absurd rfl hb)
    case struct fs =>
      rcases hf : fs[f]? with _ | fd
      · rw [hf] at hb; exact absurd rfl hb
      · simp only [hf] at hb ⊢
        obtain ⟨us, rfl, a', x, e1, e2, e3⟩ := partA_sound (P := P) (w := w) ha hb
        refine ⟨a', x, e1, ?_, e3⟩
        simp only [Instr.field, Sem.run_bind, run_underlying hu, Result.andThen_ok, hf, asAgg, Sem.run_pure]
        simpa using e2

theorem sIdx_inv {a i : AV} {h : AHeap} (hb : sIdx a i h ≠ .bad) : ∃ s k j c, a = .str s ∧ i = .int k (.ofNat j) ∧ s[j]? = some c ∧ sIdx a i h = .ok (.int .u8 (Int.ofNat c.toNat)) h := by
  cases a <;> try (exact absurd rfl hb)
  case str s =>
    cases i <;> try (exact absurd rfl hb)
    case int k n =>
      cases n with
      | negSucc => exact absurd rfl hb
      | ofNat j =>
        simp only [sIdx] at hb ⊢
        rcases hx : s[j]? with _ | c
        · rw [hx] at hb; exact absurd rfl hb
        · exact ⟨s, k, j, c, rfl, rfl, hx, rfl⟩

theorem indexA_sound {μ : Inj} {h : AHeap} {w : World} {t : TypeId} {a i : AV} {u v : Value} (ha : VRel μ a u) (hi : VRel μ i v) (hb : indexA P t a i h ≠ .bad) : MeetsS P μ h w (indexA P t a i h) (Instr.index t u v) := by
  unfold indexA at *
  rcases hu : P.underlying t with _ | d
  · rw [hu] at hb; exact absurd rfl hb
  · cases d <;> simp only [hu] at hb ⊢ <;> try (exact absurd rfl hb)
    case string =>
      obtain ⟨s, k, j, c, rfl, rfl, hc, e1⟩ := sIdx_inv hb
      obtain ⟨s', rfl, rfl⟩ := ha
      rw [VRel] at hi; subst hi
      refine MeetsS.same (v := .int .u8 c.toNat) e1 ?_ (by simp [VRel])
      have hlt : j < s'.size := by have := (List.getElem?_eq_some_iff.1 hc).1; simpa using this
      have hcc : s'[j]? = some c := by
        have h2 : s'.data[j]? = some c := by simpa using hc
        rw [show s'[j]? = some s'[j] from by simp [hlt]]
        have h3 : s'.data[j]? = some s'.data[j] := by
          rw [Array.getElem?_eq_getElem]
        rw [h3] at h2; exact h2
      simp only [Instr.index, asIntOf, Sem.run_bind, Sem.run_pure, Result.andThen_ok, run_underlying hu]
      simp [hcc]
    case array n e =>
      cases i <;> try (exact absurd rfl hb)
      case int k j =>
        rw [VRel] at hi; subst hi
        simp only at hb ⊢
        cases hc : (decide (0 ≤ j) && decide (j < Int.ofNat n) && Nat.ble 1 (P.cellsOf e)) with
        | false => rw [hc] at hb; exact absurd rfl hb
        | true =>
          rw [hc] at hb
          simp only [Bool.and_eq_true, decide_eq_true_eq] at hc
          obtain ⟨⟨q1, q2⟩, q3⟩ := hc
          obtain ⟨us, rfl, a', x, e1, e2, e3⟩ := partA_sound (P := P) (w := w) ha hb
          refine ⟨a', x, e1, ?_, e3⟩
          simp only [Int.ofNat_eq_natCast] at q2
          simp only [Instr.index, asIntOf, Sem.run_bind, Sem.run_pure, Result.andThen_ok, run_underlying hu]
          simp [q1, q2, sizeOf_run (Nat.le_of_ble_eq_true q3), e2]

/- ### slices -/
def ORel (μ : Inj) : Option AV → Option Value → Prop
  | none, none => True
  | some a, some v => VRel μ a v
  | _, _ => False

theorem boundA_sound {μ : Inj} {a : Option AV} {v : Option Value} {dflt n : Nat} (h : boundA dflt a = some n) (ha : ORel μ a v) : (v = none ∧ n = dflt) ∨ (∃ k, v = some (.int k (n : Int))) := by
  cases a with
  | none => cases v with
    | none => simp [boundA] at h; exact .inl ⟨rfl, h.symm⟩
    | some v => exact ha.elim
  | some a => cases v with
    | none => exact ha.elim
    | some v =>
      cases a <;> simp only [boundA, reduceCtorEq] at h
      case int k i => cases i with
        | negSucc => simp at h
        | ofNat i => simp at h; subst h; rw [ORel, VRel] at ha; subst ha; exact .inr ⟨k, rfl⟩

theorem sliceBound_run {k : IntKind} {n y : Nat} {code : BoundsCode} {w : World} (h : n ≤ y) : (Instr.sliceBound (.int k (n : Int)) y code).run P w = .ok n w := by
  have h1 : (0 : Int) ≤ n ∧ (n : Int) ≤ y := by omega
  simp [Instr.sliceBound, asIntOf, h1]

theorem sliceBounds_run {μ : Inj} {b : Bool} {len cap l h m : Nat} {lo hi mx : Option AV} {lo' hi' mx' : Option Value} {w : World} (hlo : boundA 0 lo = some l) (hhi : boundA len hi = some h) (hmx : boundA cap mx = some m)
    (rlo : ORel μ lo lo') (rhi : ORel μ hi hi') (rmx : ORel μ mx mx') (h1 : m ≤ cap) (h2 : h ≤ m) (h3 : l ≤ h) (hx : mx' = none ∨ hi' ≠ none) : (Instr.sliceBounds b len cap lo' hi' mx').run P w = .ok (l, h, m) w := by
  rcases boundA_sound hmx rmx with ⟨rfl, rfl⟩ | ⟨k, rfl⟩
  · rcases boundA_sound hhi rhi with ⟨rfl, rfl⟩ | ⟨k, rfl⟩
    · rcases boundA_sound hlo rlo with ⟨rfl, rfl⟩ | ⟨k, rfl⟩
      · simp [Instr.sliceBounds]
      · simp [Instr.sliceBounds, sliceBound_run h3]
    · rcases boundA_sound hlo rlo with ⟨rfl, rfl⟩ | ⟨k, rfl⟩
      · simp [Instr.sliceBounds, sliceBound_run h2]
      · simp [Instr.sliceBounds, sliceBound_run h3, sliceBound_run h2]
  · rcases boundA_sound hhi rhi with ⟨rfl, rfl⟩ | ⟨k, rfl⟩
    · simp at hx
    · rcases boundA_sound hlo rlo with ⟨rfl, rfl⟩ | ⟨k, rfl⟩
      · simp [Instr.sliceBounds, sliceBound_run h1, sliceBound_run h2]
      · simp [Instr.sliceBounds, sliceBound_run h1, sliceBound_run h3, sliceBound_run h2]

theorem sliceStr_sound {μ : Inj} {h : AHeap} {w : World} {t : TypeId} (hu : P.underlying t = some .string) {s : List UInt8} {v : Value} {lo hi : Option AV} {lo' hi' : Option Value} (ha : VRel μ (.str s) v) (rlo : ORel μ lo lo') (rhi : ORel μ hi hi')
    (hb : sliceStr s lo hi h ≠ .bad) : MeetsS P μ h w (sliceStr s lo hi h) (Instr.sliceAt t v lo' hi' none) := by
  obtain ⟨s', rfl, rfl⟩ := ha
  unfold sliceStr at *
  rcases hh : boundA s'.data.toList.length hi with _ | hn
  · rw [hh] at hb; exact absurd rfl hb
  · rcases hl : boundA 0 lo with _ | l
    · rw [hh, hl] at hb; exact absurd rfl hb
    · simp only [hh, hl] at hb ⊢
      cases hc : (Nat.ble hn s'.data.toList.length && Nat.ble l hn) with
      | false => rw [hc] at hb; exact absurd rfl hb
      | true =>
        rw [Bool.and_eq_true] at hc
        have q1 := Nat.le_of_ble_eq_true hc.1
        have q2 := Nat.le_of_ble_eq_true hc.2
        have hs : s'.data.toList.length = s'.size := by simp
        rw [hs] at hh q1
        refine MeetsS.same (v := .string (s'.extract l hn)) rfl ?_ ⟨_, rfl, ?_⟩
        · simp only [Instr.sliceAt, Instr.slice, Sem.run_bind, run_underlying hu, Result.andThen_ok, Option.isSome_none, Bool.false_eq_true, if_false, Sem.run_pure]
          rw [sliceBounds_run (mx := none) (mx' := none) hl hh rfl rlo rhi trivial (Nat.le_refl _) q1 q2 (.inl rfl)]
          simp
        · simp [List.take_drop, ByteArray.data_extract]

theorem sliceSl_sound {μ : Inj} {h : AHeap} {w : World} {t e : TypeId} (hu : P.underlying t = some (.slice e)) {a : AV} {v : Value} {lo hi mx : Option AV} {lo' hi' mx' : Option Value} (ha : VRel μ a v) (rlo : ORel μ lo lo') (rhi : ORel μ hi hi')
    (rmx : ORel μ mx mx') (h1 : 1 ≤ P.cellsOf e) (hes : ∀ b o n es, a = .sl b o n es → es = P.cellsOf e) (hx : (mx.isSome && hi.isNone) = false) (hb : sliceSl a lo hi mx h ≠ .bad) : MeetsS P μ h w (sliceSl a lo hi mx h) (Instr.sliceAt t v lo' hi' mx') := by
  have hx' : mx' = none ∨ hi' ≠ none := by
    cases mx with
    | none => cases mx' with
      | none => exact .inl rfl
      | some _ => exact rmx.elim
    | some x => cases hi with
      | none => simp at hx
      | some y => cases hi' with
        | none => exact rhi.elim
        | some z => exact .inr (by simp)
  have at0 : ∀ u, (Instr.sliceAt t u lo' hi' mx').run P w = (Instr.slice t u lo' hi' mx').run P w := fun u => by
    simp [Instr.sliceAt, Sem.run_bind, run_underlying hu]
  cases a <;> try (exact absurd rfl hb)
  case snil =>
    rw [VRel] at ha; subst ha
    simp only [sliceSl] at hb ⊢
    rcases hh : boundA 0 hi with _ | (_ | hn)
    · rw [hh] at hb; exact absurd rfl hb
    · rcases hl : boundA 0 lo with _ | (_ | l)
      · rw [hh, hl] at hb; exact absurd rfl hb
      · rcases hm : boundA 0 mx with _ | (_ | m)
        · rw [hh, hl, hm] at hb; exact absurd rfl hb
        · refine MeetsS.same (v := .slice none 0 0) rfl ?_ (by rw [VRel])
          rw [at0]
          simp only [Instr.slice, Sem.run_bind, run_underlying hu, Result.andThen_ok]
          rw [sliceBounds_run hl hh hm rlo rhi rmx (Nat.le_refl _) (Nat.le_refl _) (Nat.le_refl _) hx']
          simp [sizeOf_run h1]
        · rw [hh, hl, hm] at hb; exact absurd rfl hb
      · rw [hh, hl] at hb; exact absurd rfl hb
    · rw [hh] at hb; exact absurd rfl hb
  case szero =>
    obtain ⟨z, rfl⟩ := ha
    simp only [sliceSl] at hb ⊢
    rcases hh : boundA 0 hi with _ | (_ | hn)
    · rw [hh] at hb; exact absurd rfl hb
    · rcases hl : boundA 0 lo with _ | (_ | l)
      · rw [hh, hl] at hb; exact absurd rfl hb
      · rcases hm : boundA 0 mx with _ | (_ | m)
        · rw [hh, hl, hm] at hb; exact absurd rfl hb
        · refine MeetsS.same (v := .slice (some z) 0 0) rfl ?_ ⟨z, rfl⟩
          rw [at0]
          simp only [Instr.slice, Sem.run_bind, run_underlying hu, Result.andThen_ok]
          rw [sliceBounds_run hl hh hm rlo rhi rmx (Nat.le_refl _) (Nat.le_refl _) (Nat.le_refl _) hx']
          simp [sizeOf_run h1]
        · rw [hh, hl, hm] at hb; exact absurd rfl hb
      · rw [hh, hl] at hb; exact absurd rfl hb
    · rw [hh] at hb; exact absurd rfl hb
  case sl b o n es =>
    have hes' := hes _ _ _ _ rfl
    obtain ⟨C, d, S, a, cap, hmu, rfl, hn, h1es, hloc⟩ := ha
    simp only [sliceSl] at hb ⊢
    rcases hm : boundA n mx with _ | m
    · rw [hm] at hb; exact absurd rfl hb
    · rcases hh : boundA n hi with _ | hn'
      · rw [hm, hh] at hb; exact absurd rfl hb
      · rcases hl : boundA 0 lo with _ | l
        · rw [hm, hh, hl] at hb; exact absurd rfl hb
        · simp only [hm, hh, hl] at hb ⊢
          cases hc : (Nat.ble m n && Nat.ble hn' m && Nat.ble l hn') with
          | false => rw [hc] at hb; exact absurd rfl hb
          | true =>
            have hc' := hc
            rw [Bool.and_eq_true, Bool.and_eq_true] at hc'
            have q1 := Nat.le_of_ble_eq_true hc'.1.1
            have q2 := Nat.le_of_ble_eq_true hc'.1.2
            have q3 := Nat.le_of_ble_eq_true hc'.2
            rw [hc] at hb
            simp only [cond] at hb ⊢
            -- what the model makes of it, for either upper end
            have model : ∀ M, boundA cap mx = some M → hn' ≤ M → M ≤ cap → (Instr.sliceAt t (.slice (some a) n cap) lo' hi' mx').run P w = .ok (.slice (some (if M = l then a else a.add (l * es))) (hn' - l) (M - l)) w := fun M hM k1 k2 => by
              rw [at0]
              simp only [Instr.slice, Sem.run_bind, run_underlying hu, Result.andThen_ok]
              rw [sliceBounds_run (len := n) hl hh hM rlo rhi rmx k2 k1 q3 hx']
              simp only [Result.andThen_ok, sizeOf_run h1, Sem.run_pure, ← hes']
              split <;> rfl
            have rel : ∀ M, hn' ≤ M → M ≤ cap → VRel μ (.sl b (o + l * es) (hn' - l) es) (.slice (some (if M = l then a else a.add (l * es))) (hn' - l) (M - l)) := fun M k1 k2 => by
              refine ⟨C, d, S, _, M - l, hmu, rfl, by omega, h1es, ?_⟩
              by_cases hMl : M = l
              · refine .inr ⟨by omega, by omega, ?_⟩
                rw [if_pos hMl]
                rcases hloc with ⟨rfl, _⟩ | ⟨_, _, hk⟩
                · exact ⟨_, rfl⟩
                · exact hk
              · rcases hloc with ⟨rfl, hS⟩ | ⟨z1, z2, _⟩
                · refine .inl ⟨by rw [if_neg hMl, addr_add]; simp [Nat.add_assoc], ?_⟩
                  have : l * es + (M - l) * es ≤ cap * es := by rw [← Nat.add_mul]; exact Nat.mul_le_mul_right _ (by omega)
                  omega
                · omega
            cases mx with
            | none =>
              simp [boundA] at hm; subst hm
              exact MeetsS.same rfl (model cap rfl (by omega) (Nat.le_refl _)) (rel cap (by omega) (Nat.le_refl _))
            | some mv =>
              have hM : boundA cap (some mv) = some m := by
                cases mv <;> simp only [boundA, reduceCtorEq] at hm ⊢
                case int k i => cases i <;> simp_all [boundA]
              have md := model m hM q2 (by omega)
              simp only at hb ⊢
              rcases hml : m - l with _ | k
              · refine MeetsS.same (v := .slice (some (if m = l then a else a.add (l * es))) 0 0) rfl ?_ ⟨_, rfl⟩
                rw [md, hml, show hn' - l = 0 by omega]
              · exact MeetsS.same rfl md (rel m q2 (by omega))

theorem sliceArr_sound {μ : Inj} {h : AHeap} {w : World} (hr : Rel μ h w) {t e : TypeId} {n : Nat} (hu : P.underlying t = some (.array n e)) {a : AV} {v : Value} {lo hi : Option AV} {lo' hi' : Option Value} (ha : VRel μ a v) (rlo : ORel μ lo lo') (rhi : ORel μ hi hi')
    (h1 : 1 ≤ P.cellsOf e) (hb : sliceArr n (P.cellsOf e) a lo hi h ≠ .bad) : MeetsS P μ h w (sliceArr n (P.cellsOf e) a lo hi h) (Instr.sliceAt t v lo' hi' none) := by
  cases a <;> try (exact absurd rfl hb)
  case ptr a => cases a with
    | none => exact absurd rfl hb
    | some L =>
      obtain ⟨b, o⟩ := L
      obtain ⟨C, d, S, hmu, rfl⟩ := ha
      simp only [sliceArr] at hb ⊢
      rcases hh : boundA n hi with _ | hn'
      · rw [hh] at hb; exact absurd rfl hb
      · rcases hl : boundA 0 lo with _ | l
        · rw [hh, hl] at hb; exact absurd rfl hb
        · simp only [hh, hl] at hb ⊢
          cases hc : (Nat.ble hn' n && Nat.ble l hn') with
          | false => rw [hc] at hb; exact absurd rfl hb
          | true =>
            have hc' := hc
            rw [Bool.and_eq_true] at hc'
            have q2 := Nat.le_of_ble_eq_true hc'.1
            have q3 := Nat.le_of_ble_eq_true hc'.2
            rw [hc] at hb
            simp only [cond] at hb ⊢
            rcases hrd : rdN h b o (n * P.cellsOf e) with _ | l'
            · rw [hrd] at hb; exact absurd rfl hb
            · obtain ⟨cs, hcs, rfl, hlen⟩ := rdN_cells hrd
              obtain ⟨c, e', fz, g1, g2, g3, g4⟩ := hr.readable hmu hcs
              simp at hlen
              refine MeetsS.same (v := .slice (some (if n = l then ⟨C, d + o, none⟩ else (⟨C, d + o, none⟩ : Addr).add (l * P.cellsOf e))) (hn' - l) (n - l)) rfl ?_ ?_
              · simp only [Instr.sliceAt, Sem.run_bind, run_underlying hu, Result.andThen_ok, Instr.sureAddr, Sem.run_pure]
                rw [sliceBounds_run (mx := none) (mx' := none) hl hh rfl rlo rhi trivial (Nat.le_refl _) q2 q3 (.inl rfl)]
                simp [sizeOf_run h1]
              · refine ⟨C, d, S, _, n - l, hmu, rfl, by omega, h1, ?_⟩
                by_cases hMl : n = l
                · exact .inr ⟨by omega, by omega, by rw [if_pos hMl]; exact ⟨_, rfl⟩⟩
                · refine .inl ⟨by rw [if_neg hMl, addr_add]; simp [Nat.add_assoc], ?_⟩
                  have e1 : l * P.cellsOf e + (n - l) * P.cellsOf e = n * P.cellsOf e := by rw [← Nat.add_mul]; congr 1; omega
                  have e2 : 1 ≤ n * P.cellsOf e := Nat.mul_pos (by omega) h1
                  omega

theorem sliceA_sound {μ : Inj} {h : AHeap} {w : World} (hr : Rel μ h w) {t : TypeId} {a : AV} {v : Value} {lo hi mx : Option AV} {lo' hi' mx' : Option Value} (ha : VRel μ a v) (rlo : ORel μ lo lo') (rhi : ORel μ hi hi') (rmx : ORel μ mx mx')
    (hb : sliceA P t a lo hi mx h ≠ .bad) : MeetsS P μ h w (sliceA P t a lo hi mx h) (Instr.sliceAt t v lo' hi' mx') := by
  unfold sliceA at *
  rcases hu : P.underlying t with _ | d
  · rw [hu] at hb; exact absurd rfl hb
  · cases d <;> simp only [hu] at hb ⊢ <;> try (exact absurd rfl hb)
    case string =>
      cases a <;> try (exact absurd rfl hb)
      case str s => cases mx with
        | some _ => exact absurd rfl hb
        | none => cases mx' with
          | some _ => exact rmx.elim
          | none => exact sliceStr_sound hu ha rlo rhi hb
    case slice e =>
      cases hx : (mx.isSome && hi.isNone) with
      | true => rw [hx] at hb; exact absurd rfl hb
      | false =>
        rw [hx] at hb
        simp only [cond] at hb ⊢
        have other : ∀ a, (∀ b o n es, a ≠ .sl b o n es) → VRel μ a v → (cond (Nat.ble 1 (P.cellsOf e)) (sliceSl a lo hi mx) .bad) h ≠ .bad → MeetsS P μ h w ((cond (Nat.ble 1 (P.cellsOf e)) (sliceSl a lo hi mx) .bad) h) (Instr.sliceAt t v lo' hi' mx') := fun a hne ha hb => by
          cases hc : Nat.ble 1 (P.cellsOf e) with
          | false => rw [hc] at hb; exact absurd rfl hb
          | true =>
            rw [hc] at hb
            exact sliceSl_sound hu ha rlo rhi rmx (Nat.le_of_ble_eq_true hc) (fun b o n es e => absurd e (hne _ _ _ _)) hx hb
        cases a <;> simp only at hb ⊢
        case sl b o n es =>
          cases hc : Nat.beq es (P.cellsOf e) with
          | false => rw [hc] at hb; exact absurd rfl hb
          | true =>
            rw [hc] at hb
            have hes := Nat.eq_of_beq_eq_true hc
            have h1 : 1 ≤ P.cellsOf e := by obtain ⟨C, d, S, a, cap, _, _, _, h1, _⟩ := ha; omega
            exact sliceSl_sound hu ha rlo rhi rmx h1 (fun b o n es' e' => by cases e'; exact hes) hx hb
        all_goals exact other _ (by intros; simp) ha hb
    case array n e =>
      cases mx with
      | some _ => exact absurd rfl hb
      | none => cases mx' with
        | some _ => exact rmx.elim
        | none =>
          simp only at hb ⊢
          cases hc : Nat.ble 1 (P.cellsOf e) with
          | false => rw [hc] at hb; exact absurd rfl hb
          | true =>
            rw [hc] at hb
            exact sliceArr_sound hr hu ha rlo rhi (Nat.le_of_ble_eq_true hc) hb
end Go.Am
