/- A text of the claim: AmOpF, AmOpG, AmOpH, AmOpI, AmOpJ. -/
import Derived.Test.YtmgkfcdmpbcmkaaGreatDoorAmB
import Derived.Laws.BytesString
import Derived.Laws.MakeOwn
/- The abstract machine against the model: conversions, append, copy. -/
namespace Go.Am

variable {P : Program}

/- ### bytes -/
theorem bytesOf_vals {μ : Inj} : ∀ {cs : List AV} {l : List UInt8} {us : List Value}, bytesOf? cs = some l → VRels μ cs us → ∃ ns : List Int, us = ns.map (Value.int .u8) ∧ l = ns.map fun n => UInt8.ofNat n.toNat
  | [], l, us, h, hr => by simp [bytesOf?] at h; rw [VRels] at hr; subst hr; subst h; exact ⟨[], rfl, rfl⟩
  | c :: cs, l, us, h, hr => by
    obtain ⟨u, us', rfl, h1, h2⟩ := hr
    cases c <;> try (simp [bytesOf?] at h; done)
    case int k n =>
      cases k <;> try (simp [bytesOf?] at h; done)
      case u8 =>
        simp only [bytesOf?] at h
        rcases hb : bytesOf? cs with _ | l'
        · rw [hb] at h; cases h
        · rw [hb] at h; simp only [Option.some.injEq] at h; subst h
          obtain ⟨ns, rfl, rfl⟩ := bytesOf_vals hb h2
          rw [VRel] at h1; subst h1
          exact ⟨n :: ns, rfl, rfl⟩
theorem foldl_push (ns : List Int) : ∀ s : ByteArray, (ns.foldl (fun r n => r.push (UInt8.ofNat n.toNat)) s).data.toList = s.data.toList ++ ns.map fun n => UInt8.ofNat n.toNat := by
  induction ns with
  | nil => intro s; simp
  | cons n ns ih => intro s; rw [List.foldl_cons, ih]; simp

theorem toStr_sound {μ : Inj} {h : AHeap} {w : World} (hr : Rel μ h w) {src dst e : TypeId} (hs : P.underlying src = some (.slice e)) (he : P.underlying e = some (.int .u8)) (hd : P.underlying dst = some .string) {a : AV} {v : Value} (ha : VRel μ a v)
    (hk : a = .snil ∨ a = .szero ∨ ∃ b o n, a = .sl b o n 1) (hb : toStr a h ≠ .bad) : MeetsS P μ h w (toStr a h) (convert src dst v) := by
  unfold toStr at *
  rcases hc : slCells h a with _ | cs
  · rw [hc] at hb; exact absurd rfl hb
  · simp only [hc] at hb ⊢
    rcases hl : bytesOf? cs with _ | l
    · rw [hl] at hb; exact absurd rfl hb
    · rcases hk with rfl | rfl | ⟨b, o, n, rfl⟩
      · rw [VRel] at ha; subst ha
        simp [slCells] at hc; subst hc
        simp [bytesOf?] at hl; subst hl
        refine MeetsS.same (v := .string .empty) rfl ?_ ⟨.empty, rfl, rfl⟩
        rw [run_convert_bytes_string w src dst e _ _ _ hs he hd]; rfl
      · obtain ⟨z, rfl⟩ := ha
        simp [slCells] at hc; subst hc
        simp [bytesOf?] at hl; subst hl
        refine MeetsS.same (v := .string .empty) rfl ?_ ⟨.empty, rfl, rfl⟩
        rw [run_convert_bytes_string w src dst e _ _ _ hs he hd, run_bytesToString w z 0 0 [] (by simp [loadCells, loadCellsFrom])]
        rfl
      · obtain ⟨C, d, S, a, cap, hm, rfl, hn, _, hloc⟩ := ha
        simp only [slCells, Nat.mul_one] at hc
        -- the cells are read, wherever the slice lies
        have hload : ∃ us : List Value, (loadCells a n).run P w = .ok us.toArray w ∧ VRels μ cs us := by
          rcases hloc with ⟨rfl, _⟩ | ⟨rfl, _, _⟩
          · exact hr.read hm hc
          · obtain ⟨_, _, rfl, _⟩ := rdN_cells hc
            exact ⟨[], by simp [loadCells, loadCellsFrom], by simp [VRels]⟩
        obtain ⟨us, hu, hru⟩ := hload
        obtain ⟨ns, rfl, rfl⟩ := bytesOf_vals hl hru
        refine MeetsS.same (v := .string (ns.foldl (fun r n => r.push (UInt8.ofNat n.toNat)) ByteArray.empty)) rfl ?_ ⟨_, rfl, ?_⟩
        · rw [run_convert_bytes_string w src dst e _ _ _ hs he hd, run_bytesToString w a n cap ns hu]
        · rw [foldl_push]; simp

/- ### a text's bytes -/
theorem byteCells_rel (μ : Inj) (s : ByteArray) : VRels μ (byteCells s.data.toList) ((s.data.map fun b => Value.int .u8 b.toNat).toList) := by
  simp only [byteCells, Array.toList_map]
  generalize s.data.toList = l
  induction l with
  | nil => rfl
  | cons c l ih => exact ⟨_, _, rfl, by simp [VRel], ih⟩
theorem byteCells_cell (s : List UInt8) : (byteCells s).all AV.isCell = true := by
  simp [byteCells, AV.isCell]

theorem freeze_heap (w : World) (a : Addr) (n : Nat) (hn : n ≠ 0) : (w.freeze a n).heap = w.heap.modify a.block fun
      | .cells c elem (lo, hi) => .cells c elem (if lo == hi then (a.off, a.off + n) else (min lo a.off, max hi (a.off + n)))
      | o => o := by
  simp only [World.freeze, hn, if_false]
  rfl

def strVals (s : ByteArray) : Array Value := s.data.map fun b => Value.int .u8 b.toNat

theorem shape_push {w w' : World} {c : Array Value} {e : TypeId} {fz : Nat × Nat} (hw : w'.heap = w.heap.push (.cells c e fz)) : w'.shape? w.heap.size = some (e, c.size) := by
  simp only [World.shape?, heap_push_new hw]

theorem stringToBytes_run (e : TypeId) (s : ByteArray) (w : World) : ∃ cap w1, s.size ≤ cap ∧ (Conv.stringToBytes e s).run P w = .ok (.slice (some ⟨w.heap.size, 0, none⟩) s.size cap) w1 ∧
    (∃ c fz, w1.heap = w.heap.push (.cells c e fz) ∧ c.size = cap ∧ Warm fz c.size ∧ ∀ i, i < s.size → c[i]? = (strVals s)[i]?) ∧ w1.os = w.os ∧ w1.output = w.output := by
  have hq : (Question.appendCap s.size 0 e).forced = false := rfl
  have hcap : s.size ≤ (Question.appendCap s.size 0 e).cut (w.tape w.drawn (Question.appendCap s.size 0 e)) := by show s.size ≤ s.size + _; exact Nat.le_add_right _ _
  generalize hg : (Question.appendCap s.size 0 e).cut (w.tape w.drawn (Question.appendCap s.size 0 e)) = cap at hcap
  have hes : (strVals s).size = s.size := by rw [strVals, Array.size_map]; rfl
  have hcs : (strVals s ++ Array.replicate (cap - s.size) (Value.int .u8 0)).size = cap := by rw [Array.size_append, Array.size_replicate, hes]; omega
  have hpush : (w.drew.alloc (.cells (strVals s ++ Array.replicate (cap - s.size) (.int .u8 0)) e)).heap = w.heap.push (.cells (strVals s ++ Array.replicate (cap - s.size) (.int .u8 0)) e) := rfl
  refine ⟨cap, (w.drew.alloc (.cells (strVals s ++ Array.replicate (cap - s.size) (.int .u8 0)) e)).freeze ⟨w.heap.size, cap, none⟩ 1, hcap, ?_,
    ⟨strVals s ++ Array.replicate (cap - s.size) (.int .u8 0), (cap, cap + 1), ?_, hcs, ?_, ?_⟩, ?_, ?_⟩
  · simp only [Conv.stringToBytes, Sem.run_bind, run_choose, hq, Bool.false_eq_true, if_false, Result.andThen_ok, newRow, run_newObj, Sem.run_pure, markStringish, run_shape, hg]
    change (Result.andThen (Sem.run P (match World.shape? { heap := w.heap.push (Obj.cells (strVals s ++ Array.replicate (cap - s.size) (Value.int .u8 0)) e), tape := w.tape, drawn := w.drawn + 1, os := w.os, output := w.output } w.heap.size with | some (_, n) => freeze { block := w.heap.size, off := n } 1 | _ => pure ()) { heap := w.heap.push (Obj.cells (strVals s ++ Array.replicate (cap - s.size) (Value.int .u8 0)) e), tape := w.tape, drawn := w.drawn + 1, os := w.os, output := w.output }) fun _ w' => Result.ok (Value.slice (some ⟨w.heap.size, 0, none⟩) s.size cap) w') = _
    have hsh := shape_push (w := w) (w' := { heap := w.heap.push (Obj.cells (strVals s ++ Array.replicate (cap - s.size) (Value.int .u8 0)) e), tape := w.tape, drawn := w.drawn + 1, os := w.os, output := w.output }) (e := e) (fz := (0, 0)) rfl
    rw [hcs] at hsh
    rw [hsh]
    simp only [run_freeze, Result.andThen_ok]
    rfl
  · rw [freeze_heap _ _ _ (by simp), hpush]
    apply Array.ext_getElem?
    intro i
    simp only [Array.getElem?_modify]
    by_cases hi : w.heap.size = i
    · subst hi; simp
    · simp only [hi, if_false]
      rw [Array.getElem?_push, Array.getElem?_push]
      simp [Ne.symm hi]
  · rw [hcs]; exact .inr (Nat.le_refl _)
  · intro i hi
    rw [Array.getElem?_append_left (by rw [hes]; exact hi)]
  · simp only [World.freeze]; rfl
  · simp only [World.freeze]; rfl

/-- a new array from text: its frozen place lies behind its cells -/
theorem strBytes_sound {μ : Inj} {h : AHeap} {w : World} {e : TypeId} (s : ByteArray) (hb : nwRow (byteCells s.data.toList) s.data.toList.length 1 h ≠ .bad) :
    MeetsN P μ h w (nwRow (byteCells s.data.toList) s.data.toList.length 1 h) (Conv.stringToBytes e s) := by
  obtain ⟨cap, w1, hcap, hrun, ⟨c, fz, hw1, hcs, hfz, hget⟩, hos, hout⟩ := stringToBytes_run (P := P) e s w
  have hl : s.data.toList.length = s.size := by rw [Array.length_toList]; rfl
  have hbl : (byteCells s.data.toList).length = s.size := by simp only [byteCells, List.length_map, hl]
  have hrun' : (Conv.stringToBytes e s).run P w = .ok (.slice (some ⟨w.heap.size, 0, none⟩) s.data.toList.length cap) w1 := by rw [hl]; exact hrun
  exact nwRow_sound (n := s.data.toList.length) (cap := cap) (es := 1) hrun' (c := c) (w' := w1) (t := e) (fz := fz) (cs := byteCells s.data.toList)
    (fun i v hv => by
      obtain ⟨u, hu, hru⟩ := (byteCells_rel μ s).get hv
      refine ⟨u, ?_, hru⟩
      have hi : i < s.size := by
        have := (List.getElem?_eq_some_iff.1 hv).1
        omega
      rw [Nat.zero_add, hget i hi]
      simpa [strVals] using hu)
    (by omega) hw1 hos hout hfz (by omega) (by omega) hb

theorem markStringish_run {w : World} {C : Nat} {k : Nat} {c : Array Value} {e : TypeId} {fz : Nat × Nat} (h : w.heap[C]? = some (.cells c e fz)) :
    (markStringish ⟨C, k, none⟩).run P w = .ok () (w.freeze ⟨C, c.size, none⟩ 1) := by
  have : w.shape? C = some (e, c.size) := by simp only [World.shape?, h]
  simp only [markStringish, Sem.run_bind, run_shape, this, Result.andThen_ok, run_freeze]

theorem Rel.touch {μ : Inj} {h : AHeap} {w w' : World} (hr : Rel μ h w) (C : Nat) (hne : ∀ k, k ≠ C → w'.heap[k]? = w.heap[k]?) (hs : w'.heap.size = w.heap.size)
    (hC : ∀ b d S o, μ b = some (C, d, S) → h.objs.get b = some o → ObjRel μ h w C d S o → ObjRel μ h w' C d S o) : Rel μ h w' where
  obj := fun b C' d S hm => by
    obtain ⟨i1, i2, o, i3, i4⟩ := hr.obj b C' d S hm
    refine ⟨i1, by rw [hs]; exact i2, o, i3, ?_⟩
    by_cases hk : C' = C
    · subst hk; exact hC b d S o hm i3 i4
    · exact ObjRel.congr (h := h) (w := w) (hne C' hk) (fun _ _ => rfl) i4
  sep := hr.sep
  ver := hr.ver
  ord := hr.ord
  fid := hr.fid
theorem Ext.touch {μ : Inj} {h : AHeap} {w w' : World} {b C d S : Nat} (hb : μ b = some (C, d, S)) (hro : ¬ isRo (h.objs.get b)) (hne : ∀ k, k ≠ C → w'.heap[k]? = w.heap[k]?) (hs : w'.heap.size = w.heap.size) (hos : w'.os = w.os) (hout : w'.output = w.output) : Ext μ h w μ h w' where
  sub := Inj.le_refl _
  newA := fun _ _ h => .inl h
  newC := fun _ _ _ _ h h' => by rw [h] at h'; cases h'
  next := Nat.le_refl _
  size := by rw [hs]; exact Nat.le_refl _
  frC := fun C' _ hr => hne C' (fun e => hro (hr b d S (by rw [e]; exact hb)))
  frA := fun _ _ _ => ⟨rfl, rfl⟩
  ro := fun _ _ _ _ => rfl
  os := hos
  output := hout

/-- a frozen place behind the cells of a block of the call's own -/
theorem freeze_sound {μ : Inj} {h : AHeap} {w : World} (hr : Rel μ h w) {b C d S f v : Nat} {cs : List AV} (hb : μ b = some (C, d, S)) (hob : h.objs.get b = some (.row cs f v)) :
    ∃ c e fz, w.heap[C]? = some (.cells c e fz) ∧ c.size = S ∧ Rel μ h (w.freeze ⟨C, c.size, none⟩ 1) ∧ Ext μ h w μ h (w.freeze ⟨C, c.size, none⟩ 1) := by
  obtain ⟨_, hC, o, ho, hor⟩ := hr.obj b C d S hb
  rw [hob] at ho; cases ho
  obtain ⟨top, lo, hf, hv, c, e, fz, g1, g2, g3⟩ := hor
  have hne : ∀ k, k ≠ C → (w.freeze ⟨C, c.size, none⟩ 1).heap[k]? = w.heap[k]? := fun k hk => by
    rw [freeze_heap _ _ _ (by simp), Array.getElem?_modify, if_neg (Ne.symm hk)]
  have hs : (w.freeze ⟨C, c.size, none⟩ 1).heap.size = w.heap.size := by rw [freeze_heap _ _ _ (by simp)]; simp
  have hC' : (w.freeze ⟨C, c.size, none⟩ 1).heap[C]? = some (.cells c e (if fz.1 == fz.2 then (c.size, c.size + 1) else (min fz.1 c.size, max fz.2 (c.size + 1)))) := by
    rw [freeze_heap _ _ _ (by simp), Array.getElem?_modify, if_pos rfl, g1]; rfl
  have warm : ∀ S', c.size = S' → Warm fz S' → Warm (if fz.1 == fz.2 then (c.size, c.size + 1) else (min fz.1 c.size, max fz.2 (c.size + 1))) S' := fun S' hS hw => by
    subst hS
    by_cases he : fz.1 = fz.2
    · simp [he, Warm]
    · rcases hw with hw | hw
      · exact absurd hw he
      · simp [he, Warm]; right; omega
  refine ⟨c, e, fz, g1, g2, hr.touch C hne hs ?_, Ext.touch hb (by rw [hob]; exact fun h => h) hne hs (by simp [World.freeze]) (by simp [World.freeze])⟩
  intro b' d' S' o' hb' ho' hor'
  rcases hr.sep b' b C d' S' d S o' _ hb' hb ho' hob with rfl | hsep
  · rw [hob] at ho'; cases ho'
    rw [hb] at hb'; cases hb'
    exact ⟨top, lo, hf, hv, c, e, _, hC', g2, fun hl => by obtain ⟨a1, a2, a3⟩ := g3 hl; exact ⟨a1, a2, warm _ g2 a3⟩⟩
  · cases o' <;> simp [SepOK] at hsep
    obtain ⟨t2, l2, k1, k2, c2, e2, fz2, k3, k4, k5⟩ := hor'
    rw [g1] at k3; cases k3
    exact ⟨t2, l2, k1, k2, c, e, _, hC', k4, fun hl => by obtain ⟨a1, a2, a3⟩ := k5 hl; exact ⟨a1, a2, warm _ k4 a3⟩⟩

theorem isU8_under {e : TypeId} (h : isU8 P e = true) : P.underlying e = some (.int .u8) := by
  unfold isU8 at h
  split at h
  · assumption
  · cases h

theorem convA_sound {μ : Inj} {h : AHeap} {w : World} {src dst : TypeId} {a : AV} {v : Value} (hr : clsConv P src dst = 1 ∨ clsConv P src dst = 3 → Rel μ h w) (ha : VRel μ a v) (hb : convA P src dst a h ≠ .bad) :
    (Rel μ h w → MeetsV P μ h w (convA P src dst a h) (convert src dst v)) ∧ (clsConv P src dst ≤ 1 → MeetsS P μ h w (convA P src dst a h) (convert src dst v)) ∧
    (clsConv P src dst = 2 → MeetsN P μ h w (convA P src dst a h) (convert src dst v)) := by
  have both : ∀ {r : Res AV} {s : Sem Value} {p q : Prop}, MeetsS P μ h w r s → (Rel μ h w → MeetsV P μ h w r s) ∧ (p → MeetsS P μ h w r s) ∧ (q → MeetsN P μ h w r s) := fun m => ⟨fun hr => m.toV hr, fun _ => m, fun _ => m.toN⟩
  have toS : ∀ {p q : Prop}, ∀ e, P.underlying src = some (.slice e) → P.underlying dst = some .string → isU8 P e = true → (a = .snil ∨ a = .szero ∨ ∃ b o n, a = .sl b o n 1) → toStr a h ≠ .bad →
      (Rel μ h w → MeetsV P μ h w (toStr a h) (convert src dst v)) ∧ (p → MeetsS P μ h w (toStr a h) (convert src dst v)) ∧ (q → MeetsN P μ h w (toStr a h) (convert src dst v)) := fun e e1 e2 he hk hb =>
    both (toStr_sound (hr (.inl (by simp [clsConv, e1, e2]))) e1 (isU8_under he) e2 ha hk hb)
  cases a <;> simp only [convA] at hb ⊢ <;> try (exact absurd rfl hb)
  case int k n =>
    rw [VRel] at ha; subst ha
    rcases hs : P.underlying src with _ | ds
    · rw [hs] at hb; exact absurd rfl hb
    · rcases hd : P.underlying dst with _ | dd
      · rw [hs, hd] at hb; exact absurd rfl hb
      · cases dd <;> simp only [hs, hd] at hb ⊢ <;> try (exact absurd rfl hb)
        case int k' =>
          exact both (MeetsS.same (v := .int k' (k'.wrap n)) rfl (by simp [convert, run_underlying hs, run_underlying hd, Conv.intToInt]) (by rw [VRel, wrapA_eq]))
  case str s =>
    obtain ⟨s', rfl, rfl⟩ := ha
    rcases hs : P.underlying src with _ | ds
    · rw [hs] at hb; exact absurd rfl hb
    · rcases hd : P.underlying dst with _ | dd
      · rw [hs, hd] at hb; exact absurd rfl hb
      · cases dd <;> simp only [hs, hd] at hb ⊢ <;> try (exact absurd rfl hb)
        case string =>
          exact both (MeetsS.same (v := .string s') rfl (by simp [convert, run_underlying hs, run_underlying hd]) ⟨s', rfl, rfl⟩)
        case slice e =>
          cases he : isU8 P e with
          | false => rw [he] at hb; exact absurd rfl hb
          | true =>
            rw [he] at hb
            simp only [cond] at hb ⊢
            have hrun : (convert src dst (.string s')).run P w = (Conv.stringToBytes e s').run P w := by
              simp only [convert, Sem.run_bind, run_underlying hs, run_underlying hd, Result.andThen_ok, run_underlying (isU8_under he)]
            have key : MeetsN P μ h w (nwRow (byteCells s'.data.toList) s'.data.toList.length 1 h) (convert src dst (.string s')) := by
              have := strBytes_sound (P := P) (μ := μ) (w := w) (e := e) s' hb
              unfold MeetsN at this ⊢
              rw [hrun]; exact this
            exact ⟨fun hr => key.toV hr, fun hle => by cases ds <;> simp [clsConv, hs, hd] at hle, fun _ => key⟩
  case snil =>
    rcases hs : P.underlying src with _ | ds
    · rw [hs] at hb; exact absurd rfl hb
    · rcases hd : P.underlying dst with _ | dd
      · rw [hs, hd] at hb; cases ds <;> exact absurd rfl hb
      · cases ds <;> cases dd <;> simp only [hs, hd] at hb ⊢ <;> try (exact absurd rfl hb)
        case slice.string e =>
          cases he : isU8 P e with
          | false => rw [he] at hb; exact absurd rfl hb
          | true => rw [he] at hb; exact toS e hs hd he (.inl rfl) hb
  case szero =>
    rcases hs : P.underlying src with _ | ds
    · rw [hs] at hb; exact absurd rfl hb
    · rcases hd : P.underlying dst with _ | dd
      · rw [hs, hd] at hb; cases ds <;> exact absurd rfl hb
      · cases ds <;> cases dd <;> simp only [hs, hd] at hb ⊢ <;> try (exact absurd rfl hb)
        case slice.string e =>
          cases he : isU8 P e with
          | false => rw [he] at hb; exact absurd rfl hb
          | true => rw [he] at hb; exact toS e hs hd he (.inr (.inl rfl)) hb
  case sl b o n es =>
    rcases hs : P.underlying src with _ | ds
    · rw [hs] at hb; exact absurd rfl hb
    · rcases hd : P.underlying dst with _ | dd
      · rw [hs, hd] at hb; cases ds <;> exact absurd rfl hb
      · cases ds <;> cases dd <;> simp only [hs, hd] at hb ⊢ <;> try (exact absurd rfl hb)
        case slice.string e =>
          cases he : (isU8 P e && Nat.beq es 1) with
          | false => rw [he] at hb; exact absurd rfl hb
          | true =>
            rw [he] at hb
            rw [Bool.and_eq_true] at he
            exact toS e hs hd he.1 (.inr (.inr ⟨b, o, n, by rw [Nat.eq_of_beq_eq_true he.2]⟩)) hb
        case slice.slice e0 e =>
          cases he : (isU8 P e && Nat.beq src dst) with
          | false => rw [he] at hb; exact absurd rfl hb
          | true =>
            rw [he] at hb
            rw [Bool.and_eq_true] at he
            simp only [cond, ownRow] at hb ⊢
            rcases ho : h.objs.get b with _ | ob
            · rw [ho] at hb; exact absurd rfl hb
            · rw [ho] at hb
              cases ob <;> try (exact absurd rfl hb)
              case row cs f ver =>
                have ha' := ha
                obtain ⟨C, d, S, a, cap, hm, rfl, hn, h1, hloc⟩ := ha
                have h3 : clsConv P src dst = 3 := by simp [clsConv, hs, hd]
                obtain ⟨c, e', fz, g1, g2, g3, g4⟩ := freeze_sound (hr (.inr h3)) hm ho
                have hab : ∃ k, a = ⟨C, k, none⟩ := by
                  rcases hloc with ⟨rfl, _⟩ | ⟨_, _, h⟩
                  · exact ⟨_, rfl⟩
                  · exact h
                obtain ⟨k, rfl⟩ := hab
                refine ⟨fun _ => ⟨_, h, μ, _, _, rfl, ?_, g3, g4, ha'⟩, fun hne => by omega, fun hne => by omega⟩
                have hsd : (src == dst) = true := by rw [Nat.eq_of_beq_eq_true he.2]; simp
                simp only [convert, Sem.run_bind, run_underlying hs, run_underlying hd, Result.andThen_ok, run_underlying (isU8_under he.1), hsd, markStringish_run g1, Sem.run_pure]
end Go.Am
/- The abstract machine against the model: append and copy. -/
namespace Go.Am

variable {P : Program}

theorem Rel.heap_eq {μ : Inj} {h : AHeap} {w w' : World} (hr : Rel μ h w) (hw : w'.heap = w.heap) : Rel μ h w' where
  obj := fun b C d S hm => by
    obtain ⟨i1, i2, o, i3, i4⟩ := hr.obj b C d S hm
    exact ⟨i1, by rw [hw]; exact i2, o, i3, ObjRel.congr (h := h) (w := w) (by rw [hw]) (fun _ _ => rfl) i4⟩
  sep := hr.sep
  ver := hr.ver
  ord := hr.ord
  fid := hr.fid

theorem growBy_le : ∀ (r n c : Nat), c ≤ n + (n + 768) / 4 → Builtin.growBy n r c ≤ n + (n + 768) / 4
  | 0, n, c, h => h
  | r + 1, n, c, h => by
    simp only [Builtin.growBy]
    split
    · exact h
    · exact growBy_le r n _ (by omega)
theorem nextslicecap_le (n c : Nat) (h : c < n) : Builtin.nextslicecap n c ≤ 2 * n + 192 := by
  unfold Builtin.nextslicecap
  split
  · omega
  · split
    · omega
    · have := growBy_le 4 n c (by omega); omega

/- ### what is appended -/
theorem src_sound {μ : Inj} {h : AHeap} {w : World} (hr : Rel μ h w) {es n : Nat} {x : AV} {x' : Value} {xs : List AV} (hx : VRel μ x x') (hs : srcCells h es x = some (n, xs)) (h1 : 1 ≤ es) :
    (∀ w', (Builtin.lenOf x').run P w' = .ok n w') ∧ xs.length = n * es ∧ (∃ news : List Value, VRels μ xs news ∧ ∀ w', w'.heap = w.heap → (Builtin.firstCells es n x').run P w' = .ok news.toArray w') := by
  cases x <;> simp only [srcCells, Option.some.injEq, Prod.mk.injEq, reduceCtorEq] at hs
  case snil =>
    obtain ⟨rfl, rfl⟩ := hs
    rw [VRel] at hx; subst hx
    exact ⟨fun _ => rfl, by simp, [], rfl, fun w' _ => rfl⟩
  case szero =>
    obtain ⟨rfl, rfl⟩ := hs
    obtain ⟨a, rfl⟩ := hx
    exact ⟨fun _ => rfl, by simp, [], rfl, fun w' _ => by simp [Builtin.firstCells, loadCells, loadCellsFrom]⟩
  case sl b o n' es' =>
    cases he : Nat.beq es es' with
    | false => rw [he] at hs; cases hs
    | true =>
      have := Nat.eq_of_beq_eq_true he
      subst this
      rw [he] at hs
      simp only [cond] at hs
      rcases hrd : rdN h b o (n' * es) with _ | l
      · rw [hrd] at hs; cases hs
      · rw [hrd] at hs
        simp only [Option.some.injEq, Prod.mk.injEq] at hs
        obtain ⟨rfl, rfl⟩ := hs
        obtain ⟨C, d, S, a, cap, hm, rfl, hn, _, hloc⟩ := hx
        obtain ⟨_, _, _, hlen⟩ := rdN_cells hrd
        refine ⟨fun _ => rfl, hlen, ?_⟩
        rcases hloc with ⟨rfl, _⟩ | ⟨rfl, _, _⟩
        · obtain ⟨us, hu, hru⟩ := hr.read (P := P) hm hrd
          refine ⟨us, hru, fun w' hw => ?_⟩
          have hr' := hr.heap_eq hw
          -- the cells do not hang on anything but the heap
          obtain ⟨cs, hc, rfl, hn'⟩ := rdN_cells hrd
          obtain ⟨c, e, fz, g1, g2, g3, g4⟩ := hr.readable hm hc
          have hsame : ∀ j, j < n' * es → w'.cell? ((⟨C, d + o, none⟩ : Addr).add j) = w.cell? ((⟨C, d + o, none⟩ : Addr).add j) := fun j _ => by simp only [World.cell?, hw]
          simp at hn'
          have hcell : ∀ j, j < n' * es → w.cell? ((⟨C, d + o, none⟩ : Addr).add j) = some ((c[d + o + j]?).getD undef) := fun j hj => by
            rw [addr_add, cell_of g1]
            have hlt : d + o + j < c.size := by omega
            simp [hlt]
          have r1 := run_loadCells (P := P) w ⟨C, d + o, none⟩ (n' * es) _ hcell
          have r2 := run_loadCells (P := P) w' ⟨C, d + o, none⟩ (n' * es) _ (fun j hj => (hsame j hj).trans (hcell j hj))
          rw [hu] at r1
          simp only [Builtin.firstCells]
          rw [r2]
          injection r1 with r1 _
          rw [r1]
        · have : l = [] := by simpa using hlen
          subst this
          exact ⟨[], rfl, fun w' _ => by simp [Builtin.firstCells, loadCells, loadCellsFrom]⟩
  case str s =>
    cases he : Nat.beq es 1 with
    | false => rw [he] at hs; cases hs
    | true =>
      have := Nat.eq_of_beq_eq_true he
      subst this
      rw [he] at hs
      simp only [cond, Option.some.injEq, Prod.mk.injEq] at hs
      obtain ⟨rfl, rfl⟩ := hs
      obtain ⟨s', rfl, rfl⟩ := hx
      have hl : s'.data.toList.length = s'.size := by rw [Array.length_toList]; rfl
      refine ⟨fun _ => by rw [hl]; rfl, by simp [byteCells], (strVals s').toList, byteCells_rel μ s', fun w' _ => ?_⟩
      simp only [Builtin.firstCells, Sem.run_pure, hl]
      congr 1
      simp only [strVals, Array.toArray_toList]
      congr 1
      have : s'.extract 0 s'.size = s' := by simp
      rw [this]

/-- what 'append' needs of its types -/
structure AppT (P : Program) (t t1 e : TypeId) (zs : List AV) : Prop where
  sl : P.underlying t = some (.slice e)
  src : (∃ x, P.underlying t1 = some (.slice x)) ∨ P.underlying t1 = some .string
  size : 1 ≤ P.cellsOf e
  bytes : P.bytesOf e ≤ 4096
  zero : zeroCellsA P e = some zs

theorem zeroCells_size (zero : Array Value) (n : Nat) : (Builtin.zeroCells zero n).size = n * zero.size := by simp [Builtin.zeroCells]

/-- nothing is appended -/
theorem append_none {t t1 e : TypeId} {zs : List AV} (T : AppT P t t1 e zs) {ty : TypeId} {base : Option Addr} {sLen sCap : Nat} {x' : Value} {w : World} (hl : ∀ w', (Builtin.lenOf x').run P w' = .ok 0 w')
    (hf : (Builtin.firstCells (P.cellsOf e) 0 x').run P w = .ok #[] w) (hc : sLen ≤ sCap) : (Builtin.append_ #[t, t1] ty #[.slice base sLen sCap, x']).run P w = .ok (.slice base sLen sCap) w := by
  rcases T.src with ⟨x, hd⟩ | hd <;> (simp [Builtin.append_, run_underlying T.sl, sizeOf_run T.size, run_underlying hd, hl, hf, hc]; cases base <;> simp [storeCells])

/-- there is room: the model stores behind the slice's end -/
theorem append_room {t t1 e : TypeId} {zs : List AV} (T : AppT P t t1 e zs) {ty : TypeId} {a : Addr} {sLen sCap m : Nat} {x' : Value} {news : List Value} {w w' : World} (hl : ∀ w', (Builtin.lenOf x').run P w' = .ok m w')
    (hf : (Builtin.firstCells (P.cellsOf e) m x').run P w = .ok news.toArray w) (hc : sLen + m ≤ sCap) (hst : (storeCells (a.add (sLen * P.cellsOf e)) news).run P w = .ok () w') :
    (Builtin.append_ #[t, t1] ty #[.slice (some a) sLen sCap, x']).run P w = .ok (.slice (some a) (sLen + m) sCap) w' := by
  rcases T.src with ⟨x, hd⟩ | hd <;> (simp [Builtin.append_, run_underlying T.sl, sizeOf_run T.size, run_underlying hd, hl, hf, hc, hst])

/-- there is none: a new array -/
theorem append_grow {t t1 e : TypeId} {zs : List AV} (T : AppT P t t1 e zs) {ty : TypeId} {base : Option Addr} {sLen sCap m : Nat} {x' : Value} {olds news : List Value} {w : World} (hl : ∀ w', (Builtin.lenOf x').run P w' = .ok m w')
    (hf : ∀ w', w'.heap = w.heap → (Builtin.firstCells (P.cellsOf e) m x').run P w' = .ok news.toArray w') (ho : ∀ w', w'.heap = w.heap → (Builtin.firstCells (P.cellsOf e) sLen (.slice base sLen sCap)).run P w' = .ok olds.toArray w')
    (hc : sCap < sLen + m) (hmax : sLen + m ≤ 1073741824) : ∃ cap rest, sLen + m ≤ cap ∧ rest.size = (cap - (sLen + m)) * P.cellsOf e ∧
      (Builtin.append_ #[t, t1] ty #[.slice base sLen sCap, x']).run P w = .ok (.slice (some ⟨w.heap.size, 0, none⟩) (sLen + m) cap) (w.drew.alloc (.cells ((olds ++ news).toArray ++ rest) e)) := by
  obtain ⟨i, hi, hsz, hby⟩ := info_of_cells T.size
  obtain ⟨z, hz, hzr, hzl, _⟩ := zeroCells_sound T.zero w.drew
  have hzz : ∃ v, i.zero = some v ∧ v.cells.size = P.cellsOf e := by
    have hz' := hz
    simp only [zeroValue, typeInfo, hi, Sem.run_bind, run_program, Result.andThen_ok, Sem.run_pure] at hz'
    rcases hq : i.zero with _ | v
    · simp [hq] at hz'
    · simp [hq] at hz'
      subst hz'
      refine ⟨v, rfl, ?_⟩
      have := (hzr (fun _ => none)).length
      simp at this; omega
  obtain ⟨v, hv, hvs⟩ := hzz
  have hn : ¬ (sLen + m ≤ sCap) := by omega
  have h63 : ¬ (9223372036854775807 < ((sLen : Int) + (m : Int))) := by omega
  have hns := nextslicecap_le (sLen + m) sCap hc
  have h48 : ¬ (281474976710656 < Builtin.nextslicecap (sLen + m) sCap * i.bytes) := by
    have h1 : Builtin.nextslicecap (sLen + m) sCap * i.bytes ≤ (2 * 1073741824 + 192) * 4096 := Nat.mul_le_mul (by omega) (by rw [hby]; exact T.bytes)
    omega
  have hq : (Question.appendCap (sLen + m) sCap e).forced = false := rfl
  have hcap : sLen + m ≤ (Question.appendCap (sLen + m) sCap e).cut (w.tape w.drawn (Question.appendCap (sLen + m) sCap e)) := by show sLen + m ≤ sLen + m + _; exact Nat.le_add_right _ _
  generalize hg : (Question.appendCap (sLen + m) sCap e).cut (w.tape w.drawn (Question.appendCap (sLen + m) sCap e)) = cap at hcap
  refine ⟨cap, Builtin.zeroCells v.cells (cap - (sLen + m)), hcap, by rw [zeroCells_size, hvs], ?_⟩
  have f1 := hf w.drew rfl
  have f2 := ho w.drew rfl
  rcases T.src with ⟨x, hd⟩ | hd <;> (
    simp [Builtin.append_, run_underlying T.sl, run_underlying hd, sizeOf, hl, typeInfo, zeroValue, hi, hv, hsz, hn, h63, h48, hq, hg, f1, f2, newRow]
    have ha : olds.toArray ++ (news.toArray ++ Builtin.zeroCells v.cells (cap - (sLen + m))) = (olds ++ news).toArray ++ Builtin.zeroCells v.cells (cap - (sLen + m)) := by
      apply Array.ext'; simp [List.append_assoc]
    rw [ha])

theorem get_push_rest {l : List Value} {r : Array Value} {i : Nat} {u : Value} (h : l[i]? = some u) : (l.toArray ++ r)[i]? = some u := by
  have hi := (List.getElem?_eq_some_iff.1 h).1
  rw [Array.getElem?_append_left (by simpa using hi)]
  simpa using h

theorem apnd_sound {μ : Inj} {h : AHeap} {w : World} (hr : Rel μ h w) {t t1 e : TypeId} {zs : List AV} (T : AppT P t t1 e zs) {ty : TypeId} {s x : AV} {s' x' : Value} (hs : VRel μ s s') (hx : VRel μ x x') (hb : apnd (P.cellsOf e) s x h ≠ .bad) :
    MeetsV P μ h w (apnd (P.cellsOf e) s x h) (Builtin.append_ #[t, t1] ty #[s', x']) := by
  have h1 := T.size
  unfold apnd at *
  rcases hsrc : srcCells h (P.cellsOf e) x with _ | ⟨m, xs⟩
  · rw [hsrc] at hb; exact absurd rfl hb
  · obtain ⟨hl, hxl, news, hnews, hf⟩ := src_sound (P := P) hr hx hsrc h1
    simp only [hsrc] at hb ⊢
    rcases m with _ | m
    · -- nothing
      have hn0 : news = [] := by have := hnews.length; rw [hxl] at this; simpa using this.symm
      subst hn0
      cases s <;> try (exact absurd rfl hb)
      case snil =>
        have hs0 := hs
        rw [VRel] at hs; subst hs
        exact MeetsV.same hr rfl (append_none T hl (hf w rfl) (Nat.le_refl _)) hs0
      case szero =>
        have hs0 := hs
        obtain ⟨a, rfl⟩ := hs
        exact MeetsV.same hr rfl (append_none T hl (hf w rfl) (Nat.le_refl _)) hs0
      case sl b o n es =>
        have hs0 := hs
        obtain ⟨C, d, S, a, cap, hm, rfl, hn, _⟩ := hs
        exact MeetsV.same hr rfl (append_none T hl (hf w rfl) hn) hs0
    · have fresh : ∀ base, (∀ w', w'.heap = w.heap → (Builtin.firstCells (P.cellsOf e) 0 (.slice base 0 0)).run P w' = .ok ([] : List Value).toArray w') → Nat.ble (m + 1) maxLenA = true → nwRow xs (m + 1) (P.cellsOf e) h ≠ .bad →
          MeetsV P μ h w (nwRow xs (m + 1) (P.cellsOf e) h) (Builtin.append_ #[t, t1] ty #[.slice base 0 0, x']) := fun base ho hmax hb => by
        have hmax' := Nat.le_of_ble_eq_true hmax
        have hmx : maxLenA ≤ 1073741824 := Nat.le_refl _
        obtain ⟨cap, rest, k1, k2, k3⟩ := append_grow (P := P) T (ty := ty) (base := base) (sLen := 0) (sCap := 0) hl hf ho (by omega) (by omega)
        have hnl := hnews.length
        have harr : ((([] : List Value) ++ news).toArray ++ rest).size = cap * P.cellsOf e := by
          simp only [List.nil_append, Array.size_append, List.size_toArray, k2]
          rw [← hnl, hxl, ← Nat.add_mul]; congr 1; omega
        refine MeetsN.toV hr (nwRow_sound (n := m + 1) (cap := cap) (es := P.cellsOf e) (by simpa using k3) (c := (([] : List Value) ++ news).toArray ++ rest) (w' := w.drew.alloc (.cells ((([] : List Value) ++ news).toArray ++ rest) e)) (t := e) (fz := (0, 0)) (cs := xs)
          (fun i v hv => by
            obtain ⟨u, hu, hru⟩ := hnews.get hv
            exact ⟨u, by rw [Nat.zero_add]; exact get_push_rest (by simpa using hu), hru⟩)
          (by rw [harr, hxl]; exact Nat.mul_le_mul_right _ (by omega)) rfl rfl rfl (.inl rfl) (by omega) (by rw [harr]; exact Nat.le_refl _) hb)
      cases s <;> try (exact absurd rfl hb)
      case snil =>
        rw [VRel] at hs; subst hs
        simp only at hb ⊢
        cases hmax : Nat.ble (m + 1) maxLenA with
        | false => rw [hmax] at hb; exact absurd rfl hb
        | true => rw [hmax] at hb; exact fresh none (fun w' _ => rfl) hmax hb
      case szero =>
        obtain ⟨a, rfl⟩ := hs
        simp only at hb ⊢
        cases hmax : Nat.ble (m + 1) maxLenA with
        | false => rw [hmax] at hb; exact absurd rfl hb
        | true => rw [hmax] at hb; exact fresh (some a) (fun w' _ => by simp [Builtin.firstCells, loadCells, loadCellsFrom]) hmax hb
      case sl b o n es =>
        simp only at hb ⊢
        rcases ho : h.objs.get b with _ | ob
        · rw [ho] at hb; exact absurd rfl hb
        · rw [ho] at hb
          cases ob <;> try (exact absurd rfl hb)
          case row cs f ver =>
            simp only at hb ⊢
            rcases hfam : h.fams.get f with _ | ⟨top, lo⟩
            · rw [hfam] at hb; exact absurd rfl hb
            · simp only [hfam] at hb ⊢
              cases hc : (Nat.beq (P.cellsOf e) es && Nat.ble 1 (P.cellsOf e) && Nat.ble lo ver && Nat.ble (o + n * P.cellsOf e) cs.length && Nat.ble (n + (m + 1)) maxLenA && xs.all AV.isCell) with
              | false => rw [hc] at hb; exact absurd rfl hb
              | true =>
                have hc' := hc
                simp only [Bool.and_eq_true] at hc'
                obtain ⟨⟨⟨⟨⟨q1, _⟩, q2⟩, q3⟩, q4⟩, q5⟩ := hc'
                have q1 := Nat.eq_of_beq_eq_true q1
                subst q1
                have q2 := Nat.le_of_ble_eq_true q2
                have q3 := Nat.le_of_ble_eq_true q3
                have q4 := Nat.le_of_ble_eq_true q4
                have hmx : maxLenA ≤ 1073741824 := Nat.le_refl _
                obtain ⟨C, d, S, a, cap, hm, rfl, hn, _, hloc⟩ := hs
                -- b's own block
                obtain ⟨_, hC, o', ho', hor⟩ := hr.obj b C d S hm
                rw [ho] at ho'; cases ho'
                obtain ⟨top', lo', hf', ⟨hv, hlt⟩, c, el, fz, g1, g2, g3⟩ := hor
                rw [hfam] at hf'; cases hf'
                obtain ⟨g4, g5, g6⟩ := g3 q2
                have hnl := hnews.length
                have hmul : n * P.cellsOf e + (m + 1) * P.cellsOf e = (n + (m + 1)) * P.cellsOf e := (Nat.add_mul _ _ _).symm
                -- what both ways of the abstract machine come to
                have core : ∀ lo2, (lo2 = top + 1 ∨ lo2 = lo ∧ ver = top ∧ o + n * P.cellsOf e = cs.length) →
                    MeetsV P μ h w (.ok (.sl h.next 0 (n + (m + 1)) (P.cellsOf e)) { next := h.next + 1, objs := h.objs.set h.next (.row ((cs.drop o).take (n * P.cellsOf e) ++ xs) f (top + 1)), fams := h.fams.set f (top + 1, lo2) })
                      (Builtin.append_ #[t, t1] ty #[.slice (some a) n cap, x']) := fun lo2 hlo2 => by
                  have htl : ((cs.drop o).take (n * P.cellsOf e)).length = n * P.cellsOf e := by simp; omega
                  have hcsl : ((cs.drop o).take (n * P.cellsOf e) ++ xs).length = (n + (m + 1)) * P.cellsOf e := by rw [List.length_append, htl, hxl, hmul]
                  by_cases hroom : n + (m + 1) ≤ cap
                  · -- in place
                    rcases hloc with ⟨rfl, hS⟩ | ⟨_, hz, _⟩
                    · have hcapmul : (n + (m + 1)) * P.cellsOf e ≤ cap * P.cellsOf e := Nat.mul_le_mul_right _ hroom
                      have hone := all_oneCell q5 hnews
                      have hst := storeCells_run (P := P) (k := d + o + n * P.cellsOf e) g1 (g2 ▸ g6) news hone (by rw [← hnl, hxl, g2]; omega)
                      have hrun := append_room (P := P) T (ty := ty) (a := ⟨C, d + o, none⟩) (sLen := n) (sCap := cap) hl (hf w rfl) hroom (by rw [addr_add]; exact hst)
                      have key := hr.append (w' := w.setCells C (d + o + n * P.cellsOf e) news) (cs' := (cs.drop o).take (n * P.cellsOf e) ++ xs) (m := n * P.cellsOf e) (o := o) hm ho hfam q2 hlo2 (os_setCells _ _ _ _).1 (os_setCells _ _ _ _).2 (C' := C) (d' := d + o) (S' := S)
                        (.inl ⟨rfl, size_setCells _ _ _ _, fun k hk => heap_setCells_ne hk _ _ _, by rw [hcsl]; omega, c, _, el, fz, g1, heap_setCells news _ w c g1, size_overArr _ _ _, fun j hj => get_overArr_out _ _ _ _ (.inl hj)⟩)
                        ⟨_, el, fz, heap_setCells news _ w c g1, by rw [size_overArr]; exact g2, by rw [hcsl]; omega, fun i v hv => by
                          rcases Nat.lt_or_ge i (n * P.cellsOf e) with hi | hi
                          · rw [List.getElem?_append_left (by omega), List.getElem?_take_of_lt hi, List.getElem?_drop] at hv
                            obtain ⟨u, hu, hru⟩ := g5 (o + i) v hv
                            exact ⟨u, by rw [get_overArr_out _ _ _ _ (.inl (by omega)), ← hu]; congr 1; omega, hru⟩
                          · rw [List.getElem?_append_right (by omega), htl] at hv
                            obtain ⟨u, hu, hru⟩ := hnews.get hv
                            have hi2 := (List.getElem?_eq_some_iff.1 hu).1
                            have := get_overArr_in news c (d + o + n * P.cellsOf e) (i - n * P.cellsOf e) (by rw [← hnl, hxl, g2]; omega) hi2
                            refine ⟨u, ?_, hru⟩
                            rw [show d + o + i = d + o + n * P.cellsOf e + (i - n * P.cellsOf e) by omega, this, hu], g6⟩
                      refine ⟨_, _, _, .slice (some ⟨C, d + o, none⟩) (n + (m + 1)) cap, _, rfl, hrun, key.1, key.2, ?_⟩
                      exact ⟨C, d + o, S, _, cap, addInj_same _ _ _, rfl, hroom, h1, .inl ⟨by simp, by omega⟩⟩
                    · omega
                  · -- a new array
                    have hold : ∃ olds : List Value, VRels μ ((cs.drop o).take (n * P.cellsOf e)) olds ∧ ∀ w', w'.heap = w.heap → (Builtin.firstCells (P.cellsOf e) n (.slice (some a) n cap)).run P w' = .ok olds.toArray w' := by
                      have hrd : srcCells h (P.cellsOf e) (.sl b o n (P.cellsOf e)) = some (n, (cs.drop o).take (n * P.cellsOf e)) := by
                        have hcells : h.cells b = some cs := by
                          simp only [AHeap.cells, ho, hfam]
                          rw [Nat.ble_eq_true_of_le q2]; rfl
                        have hbeq : Nat.beq ((cs.drop o).take (n * P.cellsOf e)).length (n * P.cellsOf e) = true := by rw [htl]; exact Nat.beq_refl _
                        simp only [srcCells, Nat.beq_refl, cond, rdN, hcells, hbeq]
                      obtain ⟨_, _, olds, h2, h3⟩ := src_sound (P := P) (x := .sl b o n (P.cellsOf e)) (x' := .slice (some a) n cap) hr ⟨C, d, S, a, cap, hm, rfl, hn, h1, hloc⟩ hrd h1
                      exact ⟨olds, h2, h3⟩
                    obtain ⟨olds, hol, hof⟩ := hold
                    have hoL := hol.length
                    obtain ⟨cap', rest, k1, k2, k3⟩ := append_grow (P := P) T (ty := ty) (base := some a) (sLen := n) (sCap := cap) hl hf hof (by omega) (by omega)
                    have harr : ((olds ++ news).toArray ++ rest).size = cap' * P.cellsOf e := by
                      simp only [Array.size_append, List.size_toArray, List.length_append, k2]
                      rw [← hnl, hxl, ← hoL, htl, hmul, ← Nat.add_mul]; congr 1; omega
                    have hcapmul : (n + (m + 1)) * P.cellsOf e ≤ cap' * P.cellsOf e := Nat.mul_le_mul_right _ k1
                    have hboth := hol.append hnews
                    have key := hr.append (w' := w.drew.alloc (.cells ((olds ++ news).toArray ++ rest) e)) (cs' := (cs.drop o).take (n * P.cellsOf e) ++ xs) (m := n * P.cellsOf e) (o := o) hm ho hfam q2 hlo2 rfl rfl (C' := w.heap.size) (d' := 0) (S' := cap' * P.cellsOf e)
                      (.inr ⟨rfl, _, rfl⟩)
                      ⟨_, e, (0, 0), heap_push_new rfl, harr, by rw [hcsl]; omega, fun i v hv => by
                        obtain ⟨u, hu, hru⟩ := hboth.get hv
                        exact ⟨u, by rw [Nat.zero_add]; exact get_push_rest hu, hru⟩, .inl rfl⟩
                    refine ⟨_, _, _, .slice (some ⟨w.heap.size, 0, none⟩) (n + (m + 1)) cap', _, rfl, k3, key.1, key.2, ?_⟩
                    exact ⟨w.heap.size, 0, cap' * P.cellsOf e, _, cap', addInj_same _ _ _, rfl, k1, h1, .inl ⟨rfl, by omega⟩⟩
                rw [hc] at hb
                simp only [cond]
                cases hcl : (Nat.beq ver top && Nat.beq (o + n * P.cellsOf e) cs.length) with
                | true =>
                  rw [Bool.and_eq_true] at hcl
                  have z1 := Nat.eq_of_beq_eq_true hcl.1
                  have z2 := Nat.eq_of_beq_eq_true hcl.2
                  have hdt : (cs.drop o).take (n * P.cellsOf e) = cs.drop o := by rw [List.take_of_length_le]; simp; omega
                  have := core lo (.inr ⟨rfl, z1, z2⟩)
                  rw [hdt] at this
                  exact this
                | false => exact core (top + 1) (.inl rfl)
end Go.Am
/- The abstract machine against the model: copy, composite values, new slices, clear. -/
namespace Go.Am

variable {P : Program}

/- ### copy -/
theorem slLen_run {μ : Inj} {x : AV} {x' : Value} {n : Nat} (hx : VRel μ x x') (h : slLen x = some n) (w : World) : (Builtin.lenOf x').run P w = .ok n w := by
  cases x <;> simp only [slLen, Option.some.injEq, reduceCtorEq] at h <;> subst h
  case snil => rw [VRel] at hx; subst hx; rfl
  case szero => obtain ⟨a, rfl⟩ := hx; rfl
  case sl => obtain ⟨C, d, S, a, cap, _, rfl, _⟩ := hx; rfl
  case str s =>
    obtain ⟨t, rfl, rfl⟩ := hx
    have : t.data.toList.length = t.size := by rw [Array.length_toList]; rfl
    rw [this]; rfl

theorem trunc_sound {μ : Inj} {h : AHeap} {w : World} (hr : Rel μ h w) {es k n m : Nat} {x : AV} {x' : Value} {xs : List AV} (hx : VRel μ x x') (hn : slLen x = some n) (hk : k ≤ n) (hk1 : 1 ≤ k) (h1 : 1 ≤ es) (hs : srcCells h es (truncA k x) = some (m, xs)) :
    m = k ∧ xs.length = k * es ∧ ∃ news : List Value, VRels μ xs news ∧ (Builtin.firstCells es k x').run P w = .ok news.toArray w := by
  cases x <;> simp only [slLen, Option.some.injEq, reduceCtorEq] at hn
  case snil => omega
  case szero => omega
  case sl b o n' es' =>
    subst hn
    obtain ⟨C, d, S, a, cap, hm, rfl, hc, he, hloc⟩ := hx
    have hx2 : VRel μ (truncA k (.sl b o n' es')) (.slice (some a) k cap) := ⟨C, d, S, a, cap, hm, rfl, by omega, he, by
      rcases hloc with h | ⟨h, _⟩
      · exact .inl h
      · omega⟩
    obtain ⟨hl, hxl, news, h2, h3⟩ := src_sound (P := P) hr hx2 hs h1
    have := hl w
    simp [Builtin.lenOf] at this
    subst this
    exact ⟨rfl, hxl, news, h2, h3 w rfl⟩
  case str s =>
    obtain ⟨t, rfl, rfl⟩ := hx
    have hx2 : VRel μ (truncA k (.str t.data.toList)) (.string (t.extract 0 k)) := ⟨t.extract 0 k, rfl, by rw [ByteArray.data_extract]; simp⟩
    obtain ⟨hl, hxl, news, h2, h3⟩ := src_sound (P := P) hr hx2 hs h1
    have hsz : (t.extract 0 k).size = k := by
      have h6 : t.data.toList.length = t.size := by rw [Array.length_toList]; rfl
      rw [ByteArray.size_extract]; omega
    have hmk : m = k := by
      have h5 : (Result.ok (t.extract 0 k).size w : Result Nat) = Result.ok m w := hl w
      injection h5 with h5 _
      omega
    subst hmk
    refine ⟨rfl, hxl, news, h2, ?_⟩
    have := h3 w rfl
    simp only [Builtin.firstCells, Sem.run_pure] at this ⊢
    rw [← this]
    have he : (t.extract 0 m).extract 0 m = t.extract 0 m := by
      have h7 : ∀ b : ByteArray, b.extract 0 b.size = b := fun b => by simp
      have h8 := h7 (t.extract 0 m)
      rw [hsz] at h8; exact h8
    rw [he]

theorem cpy_sound {μ : Inj} {h : AHeap} {w : World} (hr : Rel μ h w) {t e : TypeId} (ht : P.underlying t = some (.slice e)) (h1 : 1 ≤ P.cellsOf e) {ts : Array TypeId} (hts : ts[0]? = some t) {ty : TypeId} {d x : AV} {d' x' : Value} (hd : VRel μ d d') (hx : VRel μ x x')
    (hds : ∀ s, d ≠ .str s) (hb : cpy (P.cellsOf e) d x h ≠ .bad) : MeetsV P μ h w (cpy (P.cellsOf e) d x h) (Builtin.copy_ ts ty #[d', x']) := by
  unfold cpy at *
  rcases hn : slLen d with _ | n
  · rw [hn] at hb; exact absurd rfl hb
  · rcases hm : slLen x with _ | m
    · rw [hn, hm] at hb; exact absurd rfl hb
    · simp only [hn, hm] at hb ⊢
      have lx := slLen_run (P := P) hx hm w
      have shape : ∃ base cap, d' = .slice base n cap := by
        cases d <;> simp only [slLen, Option.some.injEq, reduceCtorEq] at hn <;> subst hn
        case snil => rw [VRel] at hd; exact ⟨none, 0, hd⟩
        case szero => obtain ⟨a, rfl⟩ := hd; exact ⟨some a, 0, rfl⟩
        case sl => obtain ⟨C, dd, S, a, cap, _, rfl, _⟩ := hd; exact ⟨some a, cap, rfl⟩
        case str s => exact absurd rfl (hds s)
      obtain ⟨base, cap, rfl⟩ := shape
      have f0 : (Builtin.firstCells (P.cellsOf e) 0 x').run P w = .ok #[] w := by
        cases x <;> simp only [slLen, Option.some.injEq, reduceCtorEq] at hm
        case snil => rw [VRel] at hx; subst hx; rfl
        case szero => obtain ⟨a, rfl⟩ := hx; simp [Builtin.firstCells, loadCells, loadCellsFrom]
        case sl => obtain ⟨C, dd, S, a, cap, _, rfl, _⟩ := hx; simp [Builtin.firstCells, loadCells, loadCellsFrom]
        case str s => obtain ⟨t, rfl, rfl⟩ := hx; simp [Builtin.firstCells]
      rcases hk : Nat.min m n with _ | k
      · refine MeetsV.same (v := .int .i64 0) hr rfl ?_ (by rw [VRel])
        have hk' : min m n = 0 := hk
        simp only [Builtin.copy_, hts]
        simp [run_underlying ht, lx, sizeOf_run h1, hk', f0, goInt]
        cases base <;> simp [storeCells]
      · rw [hk] at hb
        simp only at hb ⊢
        have hkm : k + 1 ≤ m := by rw [← hk]; exact Nat.min_le_left m n
        have hkn : k + 1 ≤ n := by rw [← hk]; exact Nat.min_le_right m n
        rcases hsrc : srcCells h (P.cellsOf e) (truncA (k + 1) x) with _ | ⟨q, xs⟩
        · rw [hsrc] at hb; exact absurd rfl hb
        · obtain ⟨rfl, hxl, news, hnews, hfc⟩ := trunc_sound (P := P) hr hx hm hkm (by omega) h1 hsrc
          simp only [hsrc] at hb ⊢
          cases d <;> try (exact absurd rfl hb)
          case sl b o n' es' =>
            simp only at hb ⊢
            cases hc : (Nat.beq (P.cellsOf e) es' && xs.all AV.isCell) with
            | false => rw [hc] at hb; exact absurd rfl hb
            | true =>
              rw [hc] at hb
              rw [Bool.and_eq_true] at hc
              obtain rfl := Nat.eq_of_beq_eq_true hc.1
              simp only [cond] at hb ⊢
              rcases hw : wr b o xs h with _ | h'
              · rw [hw] at hb; exact absurd rfl hb
              · obtain ⟨C, dd, S, a, cap', hmu, e1, hc1, _, hloc⟩ := hd
                cases e1
                rcases hloc with ⟨rfl, _⟩ | ⟨hz, hz2, _⟩
                · obtain ⟨g1, g2, g3⟩ := hr.write (P := P) hmu hw hnews (all_oneCell hc.2 hnews)
                  refine ⟨_, h', μ, .int .i64 (Int.ofNat (k + 1)), _, rfl, ?_, g2, g3, by rw [VRel]⟩
                  have hk' : min m n = k + 1 := hk
                  simp only [Builtin.copy_, hts]
                  simp [run_underlying ht, lx, sizeOf_run h1, hk', hfc, goInt, g1]
                · omega

/- ### memory that nobody of the abstract machine knows -/
theorem Rel.garbage {μ : Inj} {h : AHeap} {w w' : World} (hr : Rel μ h w) {obj : Obj} (hw : w'.heap = w.heap.push obj) (hos : w'.os = w.os) (hout : w'.output = w.output) : Rel μ h w' ∧ Ext μ h w μ h w' :=
  ⟨{ obj := fun b C d S hm => by
       obtain ⟨i1, i2, o, i3, i4⟩ := hr.obj b C d S hm
       exact ⟨i1, by rw [hw]; simp; omega, o, i3, ObjRel.congr (h := h) (w := w) (heap_push_lt hw i2) (fun _ _ => rfl) i4⟩
     sep := hr.sep
     ver := hr.ver
     ord := hr.ord
     fid := hr.fid },
   { sub := Inj.le_refl _
     newA := fun _ _ h => .inl h
     newC := fun _ _ _ _ h h' => by rw [h] at h'; cases h'
     next := Nat.le_refl _
     size := by rw [hw]; simp
     frC := fun C hC _ => heap_push_lt hw hC
     frA := fun _ _ _ => ⟨rfl, rfl⟩
     ro := fun _ _ _ _ => rfl
     os := hos
     output := hout }⟩

/- ### composite values -/
theorem zipIdx_fold : ∀ (vs : List Value) (k off : Nat) (cs : Array Value), (vs.zipIdx k).foldl (fun cs (x : Value × Nat) => cs.setIfInBounds (off + x.2) x.1) cs = overArr cs (off + k) vs
  | [], _, _, _ => rfl
  | v :: vs, k, off, cs => by
    rw [List.zipIdx_cons, List.foldl_cons, zipIdx_fold vs (k + 1) off]; rfl

theorem over_rel {μ : Inj} {cs xs : List AV} {c : Array Value} {us : List Value} {o : Nat} (h : VRels μ cs c.toList) (hx : VRels μ xs us) (ho : o + xs.length ≤ cs.length) : VRels μ (over cs o xs) (overArr c o us).toList := by
  have hl := h.length
  have hxl := hx.length
  simp at hl
  refine VRels.of_get (by rw [length_over _ _ _ ho]; simp [size_overArr]; exact hl) fun i a ha => ?_
  have hc := CellsRel.over (cellsRel_of h) ho (d := 0) (by omega) hx
  obtain ⟨u, hu, hr⟩ := hc i a ha
  rw [Nat.zero_add, Nat.zero_add] at hu
  exact ⟨u, by simpa using hu, hr⟩

def PartsRel (μ : Inj) : List (Nat × AV) → List (Nat × Value) → Prop
  | [], l => l = []
  | (i, a) :: r, l => ∃ v l', l = (i, v) :: l' ∧ VRel μ a v ∧ PartsRel μ r l'

theorem fill_sound {μ : Inj} {place : Nat → Option (Nat × Nat)} : ∀ {ps : List (Nat × AV)} {ps' : List (Nat × Value)} {cs out : List AV} {c : Array Value}, PartsRel μ ps ps' → VRels μ cs c.toList → fillA place cs ps = some out →
    ∃ c', Instr.fill place c ps' = some c' ∧ VRels μ out c'.toList ∧ out.length = cs.length
  | [], _, cs, out, c, hp, hc, h => by
    rw [PartsRel] at hp; subst hp
    simp only [fillA, Option.some.injEq] at h; subst h
    exact ⟨c, rfl, hc, rfl⟩
  | (i, a) :: r, _, cs, out, c, hp, hc, h => by
    obtain ⟨v, l', rfl, hv, hr⟩ := hp
    simp only [fillA] at h
    rcases hpl : place i with _ | ⟨off, size⟩
    · rw [hpl] at h; cases h
    · rw [hpl] at h
      simp only at h
      rcases hcs : a.cells? with _ | vs
      · rw [hcs] at h; cases h
      · rw [hcs] at h
        simp only at h
        cases hb : (Nat.beq vs.length size && Nat.ble (off + vs.length) cs.length) with
        | false => rw [hb] at h; cases h
        | true =>
          rw [hb] at h
          simp only [cond] at h
          rw [Bool.and_eq_true] at hb
          have q1 := Nat.eq_of_beq_eq_true hb.1
          have q2 := Nat.le_of_ble_eq_true hb.2
          have hvc := cells_of hcs hv
          have hvl := hvc.length
          have hcl := hc.length
          simp at hvl hcl
          obtain ⟨c', e1, e2, e3⟩ := fill_sound hr (over_rel hc hvc q2) h
          refine ⟨c', ?_, e2, by rw [e3, length_over _ _ _ q2]⟩
          have hcond : (v.cells.size ≠ size || off + v.cells.size > c.size) = false := by
            simp; omega
          simp only [Instr.fill, hpl]
          rw [if_neg (by rw [hcond]; simp)]
          have hz : (v.cells.zipIdx.foldl (fun cs (x : Value × Nat) => cs.setIfInBounds (off + x.2) x.1) c) = overArr c off v.cells.toList := by
            rw [← Array.foldl_toList, Array.toList_zipIdx, zipIdx_fold]; rfl
          have hz' : (v.cells.zipIdx.foldl (fun cs (c, j) => cs.setIfInBounds (off + j) c) c) = overArr c off v.cells.toList := hz
          rw [hz']; exact e1

theorem mapM_run {α β : Type} {f : α → Sem β} {g : α → β} {w : World} : ∀ (l : List α), (∀ x ∈ l, (f x).run P w = .ok (g x) w) → (l.mapM f).run P w = .ok (l.map g) w
  | [], _ => rfl
  | x :: l, h => by
    simp only [List.mapM_cons, Sem.run_bind, h x (by simp), Result.andThen_ok, mapM_run l fun y hy => h y (by simp [hy]), Sem.run_pure, List.map_cons]
theorem mapM_run_arr {α β : Type} {f : α → Sem β} {g : α → β} {w : World} (a : Array α) (h : ∀ x ∈ a.toList, (f x).run P w = .ok (g x) w) : (a.mapM f).run P w = .ok (a.map g) w := by
  obtain ⟨l⟩ := a
  rw [List.mapM_toArray, Sem.run_map, mapM_run l h]
  simp

theorem placesA_run {fs : List Field} {pl : List (Nat × Nat)} (h : placesA P fs = some pl) (w : World) : ((⟨fs⟩ : Array Field).mapM fun f => (do pure (f.offset, ← sizeOf f.type) : Sem (Nat × Nat))).run P w = .ok (⟨pl⟩ : Array (Nat × Nat)) w := by
  unfold placesA at h
  cases hc : (fs.all fun f => Nat.ble 1 (P.cellsOf f.type)) with
  | false => rw [hc] at h; cases h
  | true =>
    rw [hc] at h; simp only [cond, Option.some.injEq] at h; subst h
    rw [mapM_run_arr (g := fun f => (f.offset, P.cellsOf f.type))]
    · simp
    · intro f hf
      have := List.all_eq_true.1 hc f hf
      simp only [Sem.run_bind, sizeOf_run (Nat.le_of_ble_eq_true this), Result.andThen_ok, Sem.run_pure]

theorem buildA_sound {μ : Inj} {t : TypeId} {ps : List (Nat × AV)} {ps' : Array (Nat × Value)} {a : AV} {w : World} (hp : PartsRel μ ps ps'.toList) (h : buildA P t ps = some a) : ∃ v, (Instr.build t ps').run P w = .ok v w ∧ VRel μ a v := by
  unfold buildA at h
  rcases hz : zeroCellsA P t with _ | zero
  · rw [hz] at h; cases h
  · obtain ⟨z, z1, z2, z3, _⟩ := zeroCells_sound hz w
    simp only [hz] at h
    rcases hu : P.underlying t with _ | d
    · rw [hu] at h; cases h
    · cases d <;> simp only [hu, reduceCtorEq] at h
      case struct fs =>
        rcases hpl : placesA P fs.toList with _ | pl
        · rw [hpl] at h; cases h
        · simp only [hpl] at h
          rcases hf : fillA (pl[·]?) zero ps with _ | cs
          · rw [hf] at h; cases h
          · simp only [hf, Option.some.injEq] at h; subst h
            obtain ⟨c', e1, e2, _⟩ := fill_sound hp (z2 μ) hf
            have hrun := placesA_run hpl w
            have e1' : Instr.fill (fun x => (⟨pl⟩ : Array (Nat × Nat))[x]?) z.cells ps'.toList = some c' := by
              have hfn : (fun x : Nat => (⟨pl⟩ : Array (Nat × Nat))[x]?) = (fun x : Nat => pl[x]?) := by funext x; simp
              rw [hfn]; exact e1
            refine ⟨.agg c', ?_, c', rfl, e2⟩
            simp only [Instr.build, Sem.run_bind, z1, Result.andThen_ok, run_underlying hu]
            rw [show (fs : Array Field) = ⟨fs.toList⟩ from rfl, hrun]
            simp only [Result.andThen_ok]
            rw [e1']
            rfl
      case array n elem =>
        cases hc : Nat.ble 1 (P.cellsOf elem) with
        | false => rw [hc] at h; cases h
        | true =>
          rw [hc] at h; simp only [cond] at h
          rcases hf : fillA (fun i => some (i * P.cellsOf elem, P.cellsOf elem)) zero ps with _ | cs
          · rw [hf] at h; cases h
          · simp only [hf, Option.some.injEq] at h; subst h
            obtain ⟨c', e1, e2, _⟩ := fill_sound hp (z2 μ) hf
            refine ⟨.agg c', ?_, c', rfl, e2⟩
            simp only [Instr.build, Sem.run_bind, z1, Result.andThen_ok, run_underlying hu, sizeOf_run (Nat.le_of_ble_eq_true hc)]
            rw [e1]
            rfl

/- ### many zero values -/
theorem length_repA (z : List AV) : ∀ n, (repA z n).length = n * z.length
  | 0 => by simp [repA]
  | n + 1 => by rw [repA, List.length_append, length_repA z n, Nat.add_mul]; omega
theorem get_repA (z : List AV) : ∀ n i, i < n * z.length → (repA z n)[i]? = z[i % z.length]?
  | 0, i, h => by simp at h
  | n + 1, i, h => by
    rw [repA]
    rcases Nat.lt_or_ge i z.length with hi | hi
    · rw [List.getElem?_append_left hi, Nat.mod_eq_of_lt hi]
    · rw [List.getElem?_append_right hi, get_repA z n _ (by rw [Nat.add_mul] at h; omega)]
      congr 1
      rw [Nat.mod_eq_sub_mod hi]
theorem zeros_rel {μ : Inj} {z : List AV} {v : Value} (hz : VRels μ z v.cells.toList) (n : Nat) : VRels μ (repA z n) ((Array.range (n * z.length)).map (fun i => v.cells[i % v.cells.size]!)).toList := by
  have hl := hz.length
  simp at hl
  refine VRels.of_get (by rw [length_repA]; simp) fun i a ha => ?_
  have hi : i < n * z.length := by have := (List.getElem?_eq_some_iff.1 ha).1; rwa [length_repA] at this
  rw [get_repA z n i hi] at ha
  obtain ⟨u, hu, hr⟩ := hz.get ha
  refine ⟨u, ?_, hr⟩
  have hpos : 0 < v.cells.size := by
    rcases Nat.eq_zero_or_pos z.length with h0 | h0
    · rw [h0] at hi; simp at hi
    · omega
  have hu' : v.cells[i % v.cells.size]? = some u := by rw [← hl]; simpa using hu
  have hlt : i % v.cells.size < v.cells.size := Nat.mod_lt _ hpos
  simp [hi]
  rw [getElem!_pos v.cells (i % v.cells.size) hlt]
  rw [Array.getElem?_eq_getElem hlt] at hu'
  exact Option.some.inj hu'

theorem nwRow_pure {μ : Inj} {h : AHeap} {w : World} {cs : List AV} {c : Array Value} {t : TypeId} {n cap es : Nat} (hv : VRels μ cs c.toList) (hn : n ≤ cap) (hcap : cap * es ≤ c.size) (hb : nwRow cs n es h ≠ .bad) :
    MeetsN P μ h w (nwRow cs n es h) (do pure (.slice (some (← newRow t c)) n cap)) := by
  have hl := hv.length
  simp at hl
  exact nwRow_sound (n := n) (cap := cap) (es := es) (c := c) (w' := w.alloc (.cells c t)) (t := t) (fz := (0, 0)) (cs := cs) (by simp [newRow]) (cellsRel_of hv) (by omega) rfl rfl rfl (.inl rfl) hn hcap hb

theorem buildSliceA_sound {μ : Inj} {h : AHeap} {w : World} {t : TypeId} {n : Nat} {ps : List (Nat × AV)} {ps' : Array (Nat × Value)} (hp : PartsRel μ ps ps'.toList) (hb : buildSliceA P t n ps h ≠ .bad) :
    MeetsN P μ h w (buildSliceA P t n ps h) (Instr.buildSlice t n ps') := by
  unfold buildSliceA at *
  rcases hu : P.underlying t with _ | d
  · rw [hu] at hb; exact absurd rfl hb
  · cases d <;> simp only [hu] at hb ⊢ <;> try (exact absurd rfl hb)
    case slice elem =>
      cases hc : (Nat.ble 1 (P.cellsOf elem) && Nat.ble (n * P.cellsOf elem) 16777216) with
      | false => rw [hc] at hb; exact absurd rfl hb
      | true =>
        rw [hc] at hb
        simp only [cond] at hb ⊢
        rw [Bool.and_eq_true] at hc
        have h1 := Nat.le_of_ble_eq_true hc.1
        have h2 := Nat.le_of_ble_eq_true hc.2
        rcases hz : zeroCellsA P elem with _ | zero
        · rw [hz] at hb; exact absurd rfl hb
        · simp only [hz] at hb ⊢
          obtain ⟨z, z1, z2, z3, _⟩ := zeroCells_sound hz w
          rcases hf : fillA (fun i => some (i * P.cellsOf elem, P.cellsOf elem)) (repA zero n) ps with _ | cs
          · rw [hf] at hb; exact absurd rfl hb
          · simp only [hf] at hb ⊢
            have hzr := zeros_rel (z2 μ) n
            obtain ⟨c', e1, e2, e3⟩ := fill_sound hp hzr hf
            have hn24 : ¬ (n * P.cellsOf elem > 2 ^ 24) := by omega
            have hlen : cs.length = n * P.cellsOf elem := by rw [e3, length_repA, z3]
            rw [z3] at e1
            -- the model's run, up to the new row
            have model : (Instr.buildSlice t n ps').run P w = (do pure (.slice (some (← newRow elem c')) n n) : Sem Value).run P w := by
              by_cases h0 : n * P.cellsOf elem = 0
              · have hn0 : n = 0 := by
                  rcases Nat.eq_zero_or_pos n with h | h
                  · exact h
                  · have := Nat.mul_pos h h1; omega
                subst hn0
                simp only [Instr.buildSlice, Sem.run_bind, run_underlying hu, Result.andThen_ok, sizeOf_run h1]
                simp only [Nat.zero_mul] at e1 ⊢
                have hr0 : ∀ f : Nat → Value, (Array.range 0).map f = #[] := fun f => by simp [Array.range]
                rw [hr0] at e1
                simp [hr0, e1]
              · simp only [Instr.buildSlice, Sem.run_bind, run_underlying hu, Result.andThen_ok, sizeOf_run h1, hn24, h0, if_false, z1, Sem.run_pure]
                rw [e1]
                simp
            rcases n with _ | n
            · exact .inl ⟨.szero, .slice (some ⟨w.heap.size, 0, none⟩) 0 0, w.alloc (.cells c' elem), rfl, by rw [model]; simp [newRow], ⟨_, rfl⟩, Grown.push rfl rfl rfl⟩
            · have := nwRow_pure (P := P) (w := w) (t := elem) (cap := n + 1) e2 (Nat.le_refl _) (by have := e2.length; simp at this; omega) hb
              unfold MeetsN at this ⊢
              rw [model]; exact this
end Go.Am
/- The abstract machine against the model: make, clear, len, min, max, maps. -/
namespace Go.Am

variable {P : Program}

/- ### make -/
theorem makeSliceA_sound {μ : Inj} {h : AHeap} {w : World} {t : TypeId} {l c : AV} {l' c' : Value} (hl : VRel μ l l') (hc : VRel μ c c') (hb : makeSliceA P t l c h ≠ .bad) : MeetsN P μ h w (makeSliceA P t l c h) (Instr.makeSlice t l' c') := by
  unfold makeSliceA at *
  rcases hu : P.underlying t with _ | d
  · rw [hu] at hb; exact absurd rfl hb
  · cases d <;> simp only [hu] at hb ⊢ <;> try (exact absurd rfl hb)
    case slice elem =>
      cases l <;> try (exact absurd rfl hb)
      case int k1 l =>
        cases c <;> try (exact absurd rfl hb)
        case int k2 c =>
          rw [VRel] at hl hc; subst hl; subst hc
          simp only at hb ⊢
          cases hcc : (decide (0 ≤ l) && decide (l ≤ c) && decide (c ≤ 1073741824) && Nat.ble 1 (P.cellsOf elem) && bytesOK P elem) with
          | false => rw [hcc] at hb; exact absurd rfl hb
          | true =>
            rw [hcc] at hb
            simp only [cond] at hb ⊢
            simp only [Bool.and_eq_true, decide_eq_true_eq, bytesOK] at hcc
            obtain ⟨⟨⟨⟨q1, q2⟩, q3⟩, q4⟩, q5⟩ := hcc
            have h1 := Nat.le_of_ble_eq_true q4
            have hby := Nat.le_of_ble_eq_true q5
            rcases hz : zeroCellsA P elem with _ | zero
            · rw [hz] at hb; exact absurd rfl hb
            · simp only [hz] at hb ⊢
              obtain ⟨z, z1, z2, z3, _⟩ := zeroCells_sound hz w
              obtain ⟨i, hi, his, hib⟩ := info_of_cells h1
              have w1 : IntKind.i64.wrap l = l := by rw [IntKind.wrap_i64]; omega
              have w2 : IntKind.i64.wrap c = c := by rw [IntKind.wrap_i64]; omega
              have hsmall : ∀ x : Int, 0 ≤ x → x ≤ 1073741824 → ¬ ((i.bytes : Int) * x > 2 ^ 48) := fun x x1 x2 => by
                have : (i.bytes : Int) * x ≤ 4096 * 1073741824 := Int.mul_le_mul (by omega) x2 x1 (by omega)
                omega
              have t1 : (decide (c < 0) || decide ((i.bytes : Int) * c > 2 ^ 48)) = false := by rw [decide_eq_false (by omega), decide_eq_false (hsmall c (by omega) q3)]; rfl
              have hbad : (decide (c < 0) || decide ((i.bytes : Int) * c > 2 ^ 48) || decide (l < 0) || decide (l > c)) = false := by rw [t1]; simp; omega
              have hzr := zeros_rel (z2 μ) c.toNat
              have model : (Instr.makeSlice t (.int k1 l) (.int k2 c)).run P w = (do pure (.slice (some (← newRow elem ((Array.range (c.toNat * zero.length)).map fun i => z.cells[i % z.cells.size]!))) l.toNat c.toNat) : Sem Value).run P w := by
                by_cases h0 : c.toNat * P.cellsOf elem = 0
                · have hr0 : ∀ f : Nat → Value, (Array.range 0).map f = #[] := fun f => by simp [Array.range]
                  simp only [Instr.makeSlice, asInt, asIntOf, Sem.run_bind, run_underlying hu, Result.andThen_ok, Sem.run_pure, typeInfo, run_program, hi, w1, w2, hbad, Bool.false_eq_true, if_false, run_askRoom, sizeOf_run h1, h0, z3, if_true, hr0]
                · simp only [Instr.makeSlice, asInt, asIntOf, Sem.run_bind, run_underlying hu, Result.andThen_ok, Sem.run_pure, typeInfo, run_program, hi, w1, w2, hbad, Bool.false_eq_true, if_false, run_askRoom, sizeOf_run h1, h0, z3, z1]
              rcases hct : c.toNat with _ | n
              · have hl0 : l.toNat = 0 := by omega
                rw [hct] at model
                exact .inl ⟨.szero, .slice (some ⟨w.heap.size, 0, none⟩) 0 0, w.alloc (.cells ((Array.range (0 * zero.length)).map fun i => z.cells[i % z.cells.size]!) elem), rfl, by rw [model, hl0]; rfl, ⟨_, rfl⟩, Grown.push rfl rfl rfl⟩
              · rw [hct] at hb model hzr
                simp only at hb ⊢
                have hlen := hzr.length
                have := nwRow_pure (P := P) (w := w) (t := elem) (cap := n + 1) hzr (by omega) (by simp at hlen ⊢; rw [z3]; exact Nat.le_refl _) hb
                unfold MeetsN at this ⊢
                rw [model]; exact this

/- ### clear -/
theorem clearA_sound {μ : Inj} {h : AHeap} {w : World} (hr : Rel μ h w) {t ty : TypeId} {ts : Array TypeId} (hts : ts[0]? = some t) {x : AV} {x' : Value} (hx : VRel μ x x') (hb : clearA P t x h ≠ .bad) : MeetsV P μ h w (clearA P t x h) (Builtin.clear_ ts ty #[x']) := by
  unfold clearA at *
  rcases hu : P.underlying t with _ | d
  · rw [hu] at hb; exact absurd rfl hb
  · cases d <;> simp only [hu] at hb ⊢ <;> try (exact absurd rfl hb)
    case slice e =>
      cases x <;> try (exact absurd rfl hb)
      case snil =>
        rw [VRel] at hx; subst hx
        exact MeetsV.same hr rfl (by simp [Builtin.clear_, hts, run_underlying hu]; rfl) (undef_rel μ)
      case szero =>
        obtain ⟨a, rfl⟩ := hx
        exact MeetsV.same hr rfl (by simp [Builtin.clear_, hts, run_underlying hu]; rfl) (undef_rel μ)
      case sl b o n es =>
        simp only at hb ⊢
        obtain ⟨C, dd, S, a, cap, hm, rfl, hn, h1, hloc⟩ := hx
        cases hc : Nat.beq es (P.cellsOf e) with
        | false => rw [hc] at hb; exact absurd rfl hb
        | true =>
          rw [hc] at hb
          simp only [cond] at hb ⊢
          obtain rfl := Nat.eq_of_beq_eq_true hc
          rcases n with _ | n
          · exact MeetsV.same hr rfl (by simp [Builtin.clear_, hts, run_underlying hu]; rfl) (undef_rel μ)
          · rcases hz : zeroCellsA P e with _ | zero
            · rw [hz] at hb; exact absurd rfl hb
            · simp only [hz] at hb ⊢
              obtain ⟨z, z1, z2, z3, z4⟩ := zeroCells_sound hz w
              rcases hw : wr b o (repA zero (n + 1)) h with _ | h'
              · rw [hw] at hb; exact absurd rfl hb
              · simp only
                have hzr := zeros_rel (z2 μ) (n + 1)
                have hall : ∀ m, (repA zero m).all AV.isCell = true := fun m => by
                  induction m with
                  | zero => rfl
                  | succ m ih => rw [repA, List.all_append, z4, ih]; rfl
                have hzl := (z2 μ).length
                rcases hloc with ⟨rfl, _⟩ | ⟨hz0, _, _⟩
                · have hzc : (Builtin.zeroCells z.cells (n + 1)).toList = ((Array.range ((n + 1) * zero.length)).map fun i => z.cells[i % z.cells.size]!).toList := by
                    simp at hzl
                    rw [Builtin.zeroCells, hzl]
                  rw [← hzc] at hzr
                  obtain ⟨g1, g2, g3⟩ := hr.write (P := P) hm hw hzr (all_oneCell (hall _) hzr)
                  refine ⟨_, h', μ, _, _, rfl, ?_, g2, g3, undef_rel μ⟩
                  simp [Builtin.clear_, hts, run_underlying hu, z1, g1]
                  rfl
                · omega

/- ### len -/
theorem mapOf_sound {μ : Inj} {h : AHeap} {w : World} (hr : Rel μ h w) {x : AV} {x' : Value} {es : List (AV × AV)} (hx : VRel μ x x') (h1 : mapOf h x = some es) :
    (x' = .map none ∧ es = []) ∨ (∃ r C d S, x = .map (some r) ∧ x' = .map (some C) ∧ μ r = some (C, d, S) ∧ h.objs.get r = some (.map es) ∧ ∃ ents clock, w.heap[C]? = some (.map ents clock) ∧ EntsRel μ es ents.toList) := by
  cases x <;> simp only [mapOf, reduceCtorEq] at h1
  case map r =>
    cases r with
    | none => simp at h1; rw [VRel] at hx; exact .inl ⟨hx, h1⟩
    | some r =>
      obtain ⟨C, d, S, hm, rfl⟩ := hx
      obtain ⟨_, _, o, ho, hor⟩ := hr.obj r C d S hm
      simp only [ho] at h1
      cases o <;> simp only [Option.some.injEq, reduceCtorEq] at h1
      subst h1
      obtain ⟨_, ents, clock, g1, g2⟩ := hor
      exact .inr ⟨r, C, d, S, rfl, rfl, hm, ho, ents, clock, g1, g2⟩
theorem EntsRel.length {μ : Inj} : ∀ {es : List (AV × AV)} {l : List MapEntry}, EntsRel μ es l → es.length = l.length
  | [], _, h => by rw [EntsRel] at h; subst h; rfl
  | (k, v) :: es, _, h => by obtain ⟨e, l', rfl, _, _, h3⟩ := h; simp [EntsRel.length h3]
theorem getObj_run {w : World} {C : Nat} {ents : Array MapEntry} {clock : Nat} (h : w.heap[C]? = some (.map ents clock)) : (getObj C).run P w = .ok (.map ents clock) w := by
  simp only [getObj, Sem.run, h]

theorem lenA_sound {μ : Inj} {h : AHeap} {w : World} (hr : Rel μ h w) {t ty : TypeId} {ts : Array TypeId} (hts : ts[0]? = some t) {x : AV} {x' : Value} (hx : VRel μ x x') (hb : lenA P t x h ≠ .bad) : MeetsS P μ h w (lenA P t x h) (Builtin.len_ ts ty #[x']) := by
  unfold lenA at *
  rcases hu : P.underlying t with _ | d
  · rw [hu] at hb; exact absurd rfl hb
  · cases d <;> simp only [hu] at hb ⊢ <;> try (exact absurd rfl hb)
    case string =>
      cases x <;> try (exact absurd rfl hb)
      case str s =>
        obtain ⟨s', rfl, rfl⟩ := hx
        have : s'.data.toList.length = s'.size := by rw [Array.length_toList]; rfl
        exact MeetsS.same (v := .int .i64 s'.size) rfl (by simp [Builtin.len_, hts, run_underlying hu, goInt]) (by rw [VRel, this]; rfl)
    case slice e =>
      cases x <;> try (exact absurd rfl hb)
      case snil => rw [VRel] at hx; subst hx; exact MeetsS.same (v := .int .i64 0) rfl (by simp [Builtin.len_, hts, run_underlying hu, goInt]) (by rw [VRel])
      case szero => obtain ⟨a, rfl⟩ := hx; exact MeetsS.same (v := .int .i64 0) rfl (by simp [Builtin.len_, hts, run_underlying hu, goInt]) (by rw [VRel])
      case sl b o n es => obtain ⟨C, d, S, a, cap, _, rfl, _⟩ := hx; exact MeetsS.same (v := .int .i64 n) rfl (by simp [Builtin.len_, hts, run_underlying hu, goInt]) (by rw [VRel]; rfl)
    case array n e => exact MeetsS.same (v := .int .i64 n) rfl (by simp [Builtin.len_, hts, run_underlying hu, goInt]) (by rw [VRel]; rfl)
    case pointer e =>
      rcases hue : P.underlying e with _ | de
      · rw [hue] at hb; exact absurd rfl hb
      · cases de <;> simp only [hue] at hb ⊢ <;> try (exact absurd rfl hb)
        case array n e' => exact MeetsS.same (v := .int .i64 n) rfl (by simp [Builtin.len_, hts, run_underlying hu, run_underlying hue, goInt]) (by rw [VRel]; rfl)
    case map k e =>
      rcases hm : mapOf h x with _ | es
      · rw [hm] at hb; exact absurd rfl hb
      · simp only
        rcases mapOf_sound hr hx hm with ⟨rfl, rfl⟩ | ⟨r, C, dd, S, rfl, rfl, _, _, ents, clock, g1, g2⟩
        · exact MeetsS.same (v := .int .i64 0) rfl (by simp [Builtin.len_, hts, run_underlying hu, goInt]) (by rw [VRel]; rfl)
        · have := g2.length
          simp at this
          exact MeetsS.same (v := .int .i64 ents.size) rfl (by simp [Builtin.len_, hts, run_underlying hu, goInt, getObj_run g1]) (by rw [VRel, this]; rfl)

/- ### min, max -/
theorem minA_sound {μ : Inj} {w : World} : ∀ {l : List AV} {x r : AV} {l' : List Value} {x' : Value}, VRel μ x x' → VRels μ l l' → minA x l = some r → ∃ v, (l'.foldlM Builtin.min2 x').run P w = .ok v w ∧ VRel μ r v
  | [], x, r, l', x', hx, hl, h => by
    rw [VRels] at hl; subst hl
    simp [minA] at h; subst h
    exact ⟨x', rfl, hx⟩
  | y :: l, x, r, _, x', hx, hl, h => by
    obtain ⟨y', l', rfl, hy, hl⟩ := hl
    cases x <;> cases y <;> simp only [minA, reduceCtorEq] at h
    case int.int k x k2 y =>
      rw [VRel] at hx hy; subst hx; subst hy
      obtain ⟨v, h1, h2⟩ := minA_sound (w := w) (x' := .int k (if y < x then y else x)) (by rw [VRel]; by_cases hh : y < x <;> simp [hh]) hl h
      exact ⟨v, by simp only [List.foldlM_cons, Builtin.min2, Sem.run_bind, Sem.run_pure, Result.andThen_ok]; exact h1, h2⟩
theorem maxA_sound {μ : Inj} {w : World} : ∀ {l : List AV} {x r : AV} {l' : List Value} {x' : Value}, VRel μ x x' → VRels μ l l' → maxA x l = some r → ∃ v, (l'.foldlM Builtin.max2 x').run P w = .ok v w ∧ VRel μ r v
  | [], x, r, l', x', hx, hl, h => by
    rw [VRels] at hl; subst hl
    simp [maxA] at h; subst h
    exact ⟨x', rfl, hx⟩
  | y :: l, x, r, _, x', hx, hl, h => by
    obtain ⟨y', l', rfl, hy, hl⟩ := hl
    cases x <;> cases y <;> simp only [maxA, reduceCtorEq] at h
    case int.int k x k2 y =>
      rw [VRel] at hx hy; subst hx; subst hy
      obtain ⟨v, h1, h2⟩ := maxA_sound (w := w) (x' := .int k (if y > x then y else x)) (by rw [VRel]; by_cases hh : y > x <;> simp [hh]) hl h
      exact ⟨v, by simp only [List.foldlM_cons, Builtin.max2, Sem.run_bind, Sem.run_pure, Result.andThen_ok]; exact h1, h2⟩
end Go.Am
/- The abstract machine against the model: maps. -/
namespace Go.Am

variable {P : Program}

/- ### keys -/
theorem leaf_checkKey {e : Bool} : ∀ (d : Nat) {t : TypeId} {ls : List Nat} {b : Bool}, leafT P d t = some ls → isAggT P t = some b → ∀ (D : Nat), d ≤ D → ∀ {us : List Value} (w : World), us.length = ls.length → (Instr.checkKey e D t (valOf b us)).run P w = .ok () w
  | d + 1, t, ls, b, h, hb, D, hD, us, w, hlen => by
    obtain ⟨D, rfl⟩ : ∃ D', D = D' + 1 := ⟨D - 1, by omega⟩
    cases hu : P.underlying t with
    | none => simp [leafT, hu] at h
    | some x =>
      cases x <;> simp only [leafT, hu, Option.some.injEq, reduceCtorEq] at h
      case bool => simp [Instr.checkKey, run_underlying hu]
      case int => simp [Instr.checkKey, run_underlying hu]
      case string => simp [Instr.checkKey, run_underlying hu]
      case struct fs =>
        obtain rfl : b = true := by simp [isAggT, hu] at hb; exact hb
        cases hl : leafF (leafT P d) 0 fs.toList with
        | none => simp [hl] at h
        | some l =>
          simp only [hl] at h
          cases hcc : (!P.stoodInHeld t && (Nat.beq l.length (P.cellsOf t) && Nat.ble 1 l.length)) with
          | false => simp [hcc] at h
          | true =>
            simp only [hcc, cond, Option.some.injEq] at h; subst h
            have key : ∀ (fs : List Field) (off : Nat) (ls : List Nat), leafF (leafT P d) off fs = some ls → off + ls.length ≤ us.length →
                (forIn (m := Sem) fs PUnit.unit fun f _ => if f.name ≠ "_" then (part f.type us.toArray f.offset >>= fun x => Instr.checkKey e D f.type x >>= fun _ => pure (ForInStep.yield PUnit.unit)) else pure (ForInStep.yield PUnit.unit)).run P w = .ok PUnit.unit w := by
              intro fs
              induction fs with
              | nil => intro _ _ _ _; rfl
              | cons f fs ih =>
                intro off ls h1 h2
                simp only [leafF] at h1
                cases hn : (Nat.beq f.offset off && f.name != "_") with
                | false => simp [hn] at h1
                | true =>
                  simp only [hn, cond] at h1
                  simp at hn
                  cases g1 : leafT P d f.type with
                  | none => simp [g1] at h1
                  | some l1 =>
                    simp only [g1] at h1
                    cases g2 : leafF (leafT P d) (off + l1.length) fs with
                    | none => simp [g2] at h1
                    | some l2 =>
                      simp [g2] at h1; subst h1
                      simp at h2
                      obtain ⟨bf, k1, k2, k3, k4⟩ := leaf_kind g1
                      have p1 := part_run (P := P) (t := f.type) (xs := us.toArray) (off := f.offset) (n := l1.length) (w := w) k1 k2 k3 (by simp; omega)
                      have hne : f.name ≠ "_" := hn.2
                      have ck := leaf_checkKey (e := e) d g1 k1 D (by omega) (us := (us.drop f.offset).take l1.length) w (by simp; omega)
                      simp only [List.forIn_cons, hne, ne_eq, not_false_eq_true, if_true, Sem.run_bind, p1, Result.andThen_ok, ck, Sem.run_pure]
                      exact ih (off + l1.length) l2 g2 (by omega)
            have := key fs.toList 0 l hl (by omega)
            rw [show valOf true us = .agg us.toArray from rfl]
            simp only [Instr.checkKey, Sem.run_bind, run_underlying hu, Result.andThen_ok]
            rw [← Array.forIn_toList]
            simp only [ne_eq, ite_not] at this ⊢
            rw [this]
            rfl

theorem keyOK_check {μ : Inj} {t : TypeId} {k : AV} {k' : Value} {e : Bool} {w : World} (hk : VRel μ k k') (h : keyOK P t k = true) : (Instr.checkKey e 10000 t k').run P w = .ok () w := by
  unfold keyOK at h
  rcases hu : P.underlying t with _ | d
  · rw [hu] at h; cases h
  · cases d <;> simp only [hu, reduceCtorEq] at h
    case int =>
      cases k <;> simp only [reduceCtorEq] at h
      rw [VRel] at hk; subst hk
      exact (show ∀ D, (Instr.checkKey e (D + 1) t _).run P w = .ok () w from fun D => by simp [Instr.checkKey, run_underlying hu]) 9999
    case string =>
      cases k <;> simp only [reduceCtorEq] at h
      obtain ⟨s, rfl, _⟩ := hk
      exact (show ∀ D, (Instr.checkKey e (D + 1) t _).run P w = .ok () w from fun D => by simp [Instr.checkKey, run_underlying hu]) 9999
    case struct fs =>
      cases k <;> simp only [reduceCtorEq] at h
      case agg x =>
        obtain ⟨u, rfl, hu2⟩ := hk
        rcases hl : leafT P 8 t with _ | ls
        · rw [hl] at h; cases h
        · simp only [hl] at h
          rcases hc : cellsEq ls x x with _ | r
          · rw [hc] at h; cases h
          · have h3 := (cellsEq_len hc).1
            have h4 := hu2.length
            have := leaf_checkKey (P := P) (e := e) 8 hl (b := true) (by simp [isAggT, hu]) 10000 (by omega) (us := u.toList) w (by omega)
            simpa [valOf] using this

theorem cellEq_vals {μ : Inj} {l : Nat} {a b : AV} {u v : Value} (h : cellEq l a b = some true) (ha : VRel μ a u) (hb : VRel μ b v) : u = v ∧ ∀ n, Instr.sameBits n u v = true := by
  unfold cellEq at h
  split at h
  · rw [VRel] at ha hb; subst ha; subst hb
    simp at h; subst h; exact ⟨rfl, fun n => by cases n <;> simp [Instr.sameBits]⟩
  · rename_i k a l b
    rw [VRel] at ha hb; subst ha; subst hb
    by_cases hk : k = l
    · subst hk
      simp only [beq_self_eq_true, cond, Option.some.injEq, beq_iff_eq] at h
      subst h; exact ⟨rfl, fun n => by cases n <;> simp [Instr.sameBits]⟩
    · rw [show (k == l) = false from beq_eq_false_iff_ne.2 hk] at h; cases h
  · obtain ⟨x, rfl, hx⟩ := ha
    obtain ⟨y, rfl, hy⟩ := hb
    simp only [Option.some.injEq, beq_iff_eq] at h
    have : x = y := by
      cases x; cases y
      rw [← hx, ← hy] at h
      simp at h
      rw [h]
    subst this
    exact ⟨rfl, fun n => by cases n <;> simp only [Instr.sameBits, beq_toListBytes, beq_self_eq_true]⟩
  · cases h

theorem cellsEq_vals {μ : Inj} : ∀ {ls : List Nat} {as bs : List AV} {us vs : List Value}, cellsEq ls as bs = some true → VRels μ as us → VRels μ bs vs → us = vs ∧ ∀ n, ((us.zip vs).all fun (x, y) => Instr.sameBits n x y) = true
  | [], [], [], us, vs, _, ha, hb => by rw [VRels] at ha hb; subst ha; subst hb; exact ⟨rfl, fun _ => rfl⟩
  | [], _ :: _, _, _, _, h, _, _ => by simp [cellsEq] at h
  | [], [], _ :: _, _, _, h, _, _ => by simp [cellsEq] at h
  | _ :: _, [], _, _, _, h, _, _ => by simp [cellsEq] at h
  | _ :: _, _ :: _, [], _, _, h, _, _ => by simp [cellsEq] at h
  | t :: ts, a :: as, b :: bs, us, vs, h, ha, hb => by
    obtain ⟨u, us', rfl, h1, h2⟩ := ha
    obtain ⟨v, vs', rfl, h3, h4⟩ := hb
    simp only [cellsEq] at h
    rcases hx : cellEq t a b with _ | x
    · rw [hx] at h; cases h
    · rcases hy : cellsEq ts as bs with _ | y
      · rw [hx, hy] at h; cases h
      · rw [hx, hy] at h
        simp only [Option.some.injEq, Bool.and_eq_true] at h
        obtain ⟨rfl, rfl⟩ := h
        obtain ⟨rfl, q1⟩ := cellEq_vals hx h1 h3
        obtain ⟨rfl, q2⟩ := cellsEq_vals hy h2 h4
        exact ⟨rfl, fun n => by simp only [List.zip_cons_cons, List.all_cons, q1 n, q2 n, Bool.and_self]⟩

theorem keyEq_vals {μ : Inj} {t : TypeId} {a b : AV} {u v : Value} (h : keyEq P t a b = some true) (ha : VRel μ a u) (hb : VRel μ b v) : u = v ∧ ∀ n, Instr.sameBits (n + 1) u v = true := by
  unfold keyEq at h
  rcases hu : P.underlying t with _ | d
  · rw [hu] at h; cases h
  · split at h
    · rename_i k x l y _
      have h' : cellEq 1 (.int k x) (.int l y) = some true := h
      obtain ⟨e, q⟩ := cellEq_vals h' ha hb
      exact ⟨e, fun n => q _⟩
    · rename_i x y _
      have h' : cellEq 2 (.str x) (.str y) = some true := h
      obtain ⟨e, q⟩ := cellEq_vals h' ha hb
      exact ⟨e, fun n => q _⟩
    · rename_i x y _
      obtain ⟨u, rfl, h2⟩ := ha
      obtain ⟨v, rfl, h4⟩ := hb
      rcases hl : leafT P 8 t with _ | ls
      · rw [hl] at h; cases h
      · simp only [hl] at h
        obtain ⟨e, q⟩ := cellsEq_vals h h2 h4
        have e' : u = v := Array.toList_inj.1 e
        subst e'
        exact ⟨rfl, fun n => by simp only [Instr.sameBits, beq_self_eq_true, Bool.true_and]; exact q n⟩
    · cases h

/-- what is found is what the model finds -/
def FindRel (μ : Inj) : Option (Nat × AV) → Option (Nat × Value) → Prop
  | none, none => True
  | some (i, a), some (j, v) => i = j ∧ VRel μ a v
  | _, _ => False

theorem findNow_sound {μ : Inj} {t : TypeId} {d : TypeDesc} (hu : P.underlying t = some d) (hd : (∃ k, d = .int k) ∨ d = .string) {k : AV} {k' : Value} (hk : VRel μ k k') :
    ∀ {es : List (AV × AV)} {l : List MapEntry} {i : Nat} {r : Option (Nat × AV)}, EntsRel μ es l → findA P t k es i = some r → ∃ r', Instr.findNow d k' l i = some r' ∧ FindRel μ r r'
  | [], l, i, r, h, hf => by
    rw [EntsRel] at h; subst h
    simp [findA] at hf; subst hf
    exact ⟨none, rfl, trivial⟩
  | (k2, v) :: es, _, i, r, h, hf => by
    obtain ⟨e, l', rfl, h1, h2, h3⟩ := h
    simp only [findA] at hf
    have hnow : ∀ b, keyEq P t k k2 = some b → Instr.sameNow d k' e.key = some b := fun b hb => by
      unfold keyEq at hb
      rcases hd with ⟨kk, rfl⟩ | rfl
      · cases k <;> cases k2 <;> simp only [hu, reduceCtorEq] at hb
        case int.int a x b y =>
          rw [VRel] at hk h1
          by_cases he : a = b
          · subst he
            simp only [beq_self_eq_true, cond, Option.some.injEq] at hb
            rw [hk, h1]; simp [Instr.sameNow, hb]
          · rw [show (a == b) = false from beq_eq_false_iff_ne.2 he] at hb; cases hb
      · cases k <;> cases k2 <;> simp only [hu, reduceCtorEq] at hb
        case str.str x y =>
          obtain ⟨s1, e1, rfl⟩ := hk
          obtain ⟨s2, e2, rfl⟩ := h1
          rw [e1, e2]
          simp only [Option.some.injEq] at hb
          simp only [Instr.sameNow, beq_toListBytes, toList_bytes, hb]
    rcases hb : keyEq P t k k2 with _ | b
    · rw [hb] at hf; cases hf
    · rw [hb] at hf
      cases b with
      | true =>
        simp only [Option.some.injEq] at hf; subst hf
        exact ⟨some (i, e.val), by simp only [Instr.findNow, hnow true hb], rfl, h2⟩
      | false =>
        simp only at hf
        obtain ⟨r', e1, e2⟩ := findNow_sound hu hd hk h3 hf
        exact ⟨r', by simp only [Instr.findNow, hnow false hb, e1], e2⟩

theorem findAsking_sound {μ : Inj} {t : TypeId} {fs : Array Field} (hu : P.underlying t = some (.struct fs)) {k : AV} {k' : Value} (hk : VRel μ k k') {w : World} :
    ∀ {es : List (AV × AV)} {l : List MapEntry} {i : Nat} {r : Option (Nat × AV)}, EntsRel μ es l → findA P t k es i = some r → ∃ r', (Instr.findAsking t k' l i).run P w = .ok r' w ∧ FindRel μ r r'
  | [], l, i, r, h, hf => by
    rw [EntsRel] at h; subst h
    simp [findA] at hf; subst hf
    exact ⟨none, rfl, trivial⟩
  | (k2, v) :: es, _, i, r, h, hf => by
    obtain ⟨e, l', rfl, h1, h2, h3⟩ := h
    simp only [findA] at hf
    have hnow : ∀ b, keyEq P t k k2 = some b → (Op.equal t k' e.key).run P w = .ok b w := fun b hb => by
      unfold keyEq at hb
      cases k <;> cases k2 <;> simp only [hu, reduceCtorEq] at hb
      case agg.agg x y =>
        obtain ⟨u, rfl, q1⟩ := hk
        obtain ⟨v, e2, q2⟩ := h1
        rcases hl : leafT P 8 t with _ | ls
        · rw [hl] at hb; cases hb
        · simp only [hl] at hb
          rw [e2]
          exact equal_agg hu hl hb q1 q2
    rcases hb : keyEq P t k k2 with _ | b
    · rw [hb] at hf; cases hf
    · rw [hb] at hf
      cases b with
      | true =>
        simp only [Option.some.injEq] at hf; subst hf
        exact ⟨some (i, e.val), by simp only [Instr.findAsking, Sem.run_bind, hnow true hb, Result.andThen_ok, if_true, Sem.run_pure], rfl, h2⟩
      | false =>
        simp only at hf
        obtain ⟨r', e1, e2⟩ := findAsking_sound hu hk (w := w) h3 hf
        exact ⟨r', by simp only [Instr.findAsking, Sem.run_bind, hnow false hb, Result.andThen_ok, Bool.false_eq_true, if_false, e1], e2⟩

theorem findKey_sound {μ : Inj} {t : TypeId} {k : AV} {k' : Value} (hk : VRel μ k k') (hok : keyOK P t k = true) {w : World} {es : List (AV × AV)} {l : List MapEntry} {r : Option (Nat × AV)} (h : EntsRel μ es l) (hf : findA P t k es 0 = some r) :
    ∃ r', (Instr.findKey t k' l).run P w = .ok r' w ∧ FindRel μ r r' := by
  unfold keyOK at hok
  rcases hu : P.underlying t with _ | d
  · rw [hu] at hok; cases hok
  · cases d <;> simp only [hu, reduceCtorEq] at hok
    case int kk =>
      obtain ⟨r', e1, e2⟩ := findNow_sound hu (.inl ⟨kk, rfl⟩) hk h hf
      exact ⟨r', by simp only [Instr.findKey, Sem.run_bind, run_underlying hu, Result.andThen_ok, e1, Sem.run_pure], e2⟩
    case string =>
      obtain ⟨r', e1, e2⟩ := findNow_sound hu (.inr rfl) hk h hf
      exact ⟨r', by simp only [Instr.findKey, Sem.run_bind, run_underlying hu, Result.andThen_ok, e1, Sem.run_pure], e2⟩
    case struct fs =>
      obtain ⟨r', e1, e2⟩ := findAsking_sound hu hk (w := w) h hf
      cases l with
      | nil =>
        refine ⟨r', ?_, e2⟩
        simp [Instr.findAsking] at e1
        subst e1
        simp only [Instr.findKey, Sem.run_bind, run_underlying hu, Result.andThen_ok, Instr.findNow, Sem.run_pure]
      | cons e l =>
        refine ⟨r', ?_, e2⟩
        have hs : Instr.findNow (.struct fs) k' (e :: l) 0 = none := by simp [Instr.findNow, Instr.sameNow]
        simp only [Instr.findKey, Sem.run_bind, run_underlying hu, Result.andThen_ok, hs, e1]
end Go.Am
