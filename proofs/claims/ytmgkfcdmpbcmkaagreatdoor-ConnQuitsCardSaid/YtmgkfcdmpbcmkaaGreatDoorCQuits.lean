/- usherlaw21.ConnQuits: whatever the input, the call returns true, and each argument reads behind it as it read before. Conditions: the row's own (the package-level variables start as the program's text lays them). -/
import Derived.Test.YtmgkfcdmpbcmkaaGreatDoorK
import Derived.Test.YtmgkfcdmpbcmkaaGreatDoorQu0
import Derived.Test.YtmgkfcdmpbcmkaaGreatDoorQu1
import Derived.Test.YtmgkfcdmpbcmkaaGreatDoorQu2
namespace Go.Am
open Go.Proofs Go.Proofs.YtmgkfcdmpbcmkaaGreatDoor Go.ChangeShapes Go.WideShapes Go.ChangeAt Go.RowKit
set_option maxRecDepth 1000000
set_option linter.unusedVariables false
theorem quits_in (k len : Nat) (hk : k ≤ 28) (X : List AV) : okT (quC (callS Tryz.prog XX TT HH 99999) (loopN 99999) (.int .i64 (.ofNat k)) .snil (.bool false) (initH (lG ++ [X]))) = true ∧ okT (quC (callS Tryz.prog XX TT HH 99999) (loopN 99999) (.int .i64 (.ofNat k)) .szero (.bool false) (initH (lG ++ [X]))) = true ∧ okT (quC (callS Tryz.prog XX TT HH 99999) (loopN 99999) (.int .i64 (.ofNat k)) (.sl 8 0 len 1) (.bool false) (initH (lG ++ [X]))) = true := by
  have key : ∀ {a b c : Bool}, (a && (b && c)) = true → a = true ∧ b = true ∧ c = true := fun {a b c} h => by simpa using h
  match k, hk with
  | 0, _ => exact key (quits_0 len X)
  | 1, _ => exact key (quits_1 len X)
  | 2, _ => exact key (quits_2 len X)
  | 3, _ => exact key (quits_3 len X)
  | 4, _ => exact key (quits_4 len X)
  | 5, _ => exact key (quits_5 len X)
  | 6, _ => exact key (quits_6 len X)
  | 7, _ => exact key (quits_7 len X)
  | 8, _ => exact key (quits_8 len X)
  | 9, _ => exact key (quits_9 len X)
  | 10, _ => exact key (quits_10 len X)
  | 11, _ => exact key (quits_11 len X)
  | 12, _ => exact key (quits_12 len X)
  | 13, _ => exact key (quits_13 len X)
  | 14, _ => exact key (quits_14 len X)
  | 15, _ => exact key (quits_15 len X)
  | 16, _ => exact key (quits_16 len X)
  | 17, _ => exact key (quits_17 len X)
  | 18, _ => exact key (quits_18 len X)
  | 19, _ => exact key (quits_19 len X)
  | 20, _ => exact key (quits_20 len X)
  | 21, _ => exact key (quits_21 len X)
  | 22, _ => exact key (quits_22 len X)
  | 23, _ => exact key (quits_23 len X)
  | 24, _ => exact key (quits_24 len X)
  | 25, _ => exact key (quits_25 len X)
  | 26, _ => exact key (quits_26 len X)
  | 27, _ => exact key (quits_27 len X)
  | 28, _ => exact key (quits_28 len X)
  | k + 29, h => omega
theorem quits_runn (c : Int) (X : List AV) : okT (callS Tryz.prog XX TT HH 100000 8 [.int .i64 c, .snil] (initH (lG ++ [X]))) = true := by
  rw [qu1n]
  by_cases h1 : c < 0
  · rw [show decide (c < .ofNat 0) = true from by simpa using h1]; exact qu2n c X
  · rw [show decide (c < .ofNat 0) = false from by simpa using h1, qu3n]
    by_cases h2 : c > 28
    · rw [show decide (c > .ofNat 28) = true from by simpa using h2]; exact qu4n c X
    · rw [show decide (c > .ofNat 28) = false from by simpa using h2, qu5n]
      cases decide (Int.ofNat 0 > .ofNat 1000)
      · have h3 : c = .ofNat c.toNat := by simp; omega
        rw [h3]
        exact (quits_in c.toNat 0 (by omega) X).1
      · exact qu6n c X
theorem quits_runz (c : Int) (X : List AV) : okT (callS Tryz.prog XX TT HH 100000 8 [.int .i64 c, .szero] (initH (lG ++ [X]))) = true := by
  rw [qu1z]
  by_cases h1 : c < 0
  · rw [show decide (c < .ofNat 0) = true from by simpa using h1]; exact qu2z c X
  · rw [show decide (c < .ofNat 0) = false from by simpa using h1, qu3z]
    by_cases h2 : c > 28
    · rw [show decide (c > .ofNat 28) = true from by simpa using h2]; exact qu4z c X
    · rw [show decide (c > .ofNat 28) = false from by simpa using h2, qu5z]
      cases decide (Int.ofNat 0 > .ofNat 1000)
      · have h3 : c = .ofNat c.toNat := by simp; omega
        rw [h3]
        exact (quits_in c.toNat 0 (by omega) X).2.1
      · exact qu6z c X
theorem quits_runs (len : Nat) (c : Int) (X : List AV) : okT (callS Tryz.prog XX TT HH 100000 8 [.int .i64 c, (.sl 8 0 len 1)] (initH (lG ++ [X]))) = true := by
  rw [qu1s]
  by_cases h1 : c < 0
  · rw [show decide (c < .ofNat 0) = true from by simpa using h1]; exact qu2s len c X
  · rw [show decide (c < .ofNat 0) = false from by simpa using h1, qu3s]
    by_cases h2 : c > 28
    · rw [show decide (c > .ofNat 28) = true from by simpa using h2]; exact qu4s len c X
    · rw [show decide (c > .ofNat 28) = false from by simpa using h2, qu5s]
      cases decide (Int.ofNat len > .ofNat 1000)
      · have h3 : c = .ofNat c.toNat := by simp; omega
        rw [h3]
        exact (quits_in c.toNat len (by omega) X).2.2
      · exact qu6s len c X
theorem walk8 {H : Type} {enc : TypeId × Value → H} {W : World} (hs : W.ShapedOpen Tryz.prog) (hL : laidMetH Tryz.prog Rows.connAllRow.laid W) {args : Array Value} {ds : List (DataW H)} {p : List MemPlace} {b0 : Nat}
    (hval : ∀ (j : Nat) t v, (#[3, 22] : Array TypeId)[j]? = some t → args[j]? = some v → Value.okWide Tryz.prog W .any b0 t v) (hA : DataW.TrodAll enc Tryz.prog W 0 (fun _ => true) true (#[3, 22] : Array TypeId).toList args.toList ds p) :
    Calls Tryz.prog 8 args W fun e w' => e = .returned (.bool true) ∧ Stays W w' := by
  obtain ⟨v0, v1, d0, d1, p0, p1, rfl, rfl, rfl, h0, h1⟩ := trodAll_two hA
  obtain ⟨c, rfl, _⟩ := open_int Tryz.underlying3 (hval 0 3 v0 rfl rfl) h0
  have hc : ∀ vs w, (callFunc 8 vs).run Tryz.prog w = .ok (.enter 8 vs) w := enters Tryz.func8 (by decide +kernel) (by decide +kernel)
  have hz : ∀ μ, Seen μ W (0, 0, 1) [] := fun μ => seatSeen hs hL μ 0 _ _ rfl rfl
  rcases arg_ints Tryz.underlying22 Tryz.underlying5 (by kernel_rfl) (hval 1 22 v1 rfl rfl) h1 with rfl | ⟨a, rfl⟩ | ⟨C, o, len, cap, S, zs, rfl, h2, h3, h4, h5, h6⟩
  · refine run_law (xs := [.int .i64 c, .snil]) (by decide) hs hL [[]] [(0, 0, 1)] rfl (fun b x cs e1 e2 => ?_) ⟨_, _, rfl, rfl, _, _, rfl, rfl, rfl⟩ (hc _ _) (quits_runn c _)
    match b, e1, e2 with
    | 0, e1, e2 => cases e1; cases e2; exact hz _
    | n + 1, e1, _ => simp at e1
  · refine run_law (xs := [.int .i64 c, .szero]) (by decide) hs hL [[]] [(0, 0, 1)] rfl (fun b x cs e1 e2 => ?_) ⟨_, _, rfl, rfl, _, _, rfl, ⟨a, rfl⟩, rfl⟩ (hc _ _) (quits_runz c _)
    match b, e1, e2 with
    | 0, e1, e2 => cases e1; cases e2; exact hz _
    | n + 1, e1, _ => simp at e1
  · refine run_law (xs := [.int .i64 c, .sl 8 0 len 1]) (by decide) hs hL [zs.map fun z => .int .u8 z] [(C, o, S)] rfl (fun b x cs e1 e2 => ?_) ⟨_, _, rfl, rfl, _, _, rfl, h6 _ 8 rfl, rfl⟩ (hc _ _) (quits_runs len c _)
    match b, e1, e2 with
    | 0, e1, e2 => cases e1; cases e2; exact h5 _
    | n + 1, e1, _ => simp at e1
theorem fn_8 {H : Type} {enc : TypeId × Value → H} {W : World} {args : Array Value} {ds : List (DataW H)} {p : List MemPlace} (hA : DataW.TrodAll enc Tryz.prog W 0 (fun _ => true) true (#[3, 22] : Array TypeId).toList args.toList ds p) :
    Rows.connQuitsSpec.fn H (ds ++ []) = { results := [.lit (.bool true)], args := ds } := by
  obtain ⟨v0, v1, d0, d1, p0, p1, rfl, rfl, rfl, h0, h1⟩ := trodAll_two hA
  rfl
end Go.Am

namespace Go.Proofs.YtmgkfcdmpbcmkaaGreatDoor
open Go.Am Go.ChangeShapes Go.WideShapes Go.ChangeAt Go.RowKit
set_option maxRecDepth 1000000
theorem contract8 (H : Type) (enc : TypeId × Value → H) (W : World) (base : Nat) (args : Array Value) (ds gs : List (DataW H)) (before : List MemPlace)
    (hval : ∀ (j : Nat) t v, Tryz.f8.params[j]? = some t → args[j]? = some v → Value.okWide Tryz.prog W .any base t v)
    (hW : DataW.Whole enc Tryz.prog Tryz.f8.params.toList Rows.connQuitsSpec.vars false W args.toList ds gs before) (hL : laidMetH Tryz.prog Rows.connAllRow.laid W) (hs : W.ShapedOpen Tryz.prog) :
    Calls Tryz.prog 8 args W fun e W' => ∃ v, e = .returned v ∧ Rows.connQuitsSpec.post enc Tryz.prog Tryz.f8 false true false false W args v W' := by
  have hW' := hW
  obtain ⟨p, q, hA, hV, rfl, hfz, hnd⟩ := hW
  have hfn : Rows.connQuitsSpec.fn H (ds ++ gs) = { results := [.lit (.bool true)], args := ds } := by
    obtain ⟨rfl, rfl⟩ := trodVars_none hV
    rw [Tryz.params8] at hA
    exact fn_8 hA
  rw [Tryz.params8] at hA hval
  refine (walk8 hs hL hval hA).mono fun e W' ⟨he, hw⟩ => ?_
  subst he
  exact ⟨_, rfl, law_post laidOut hW' rfl (by kernel_rfl) Tryz.underlying4 (by decide +kernel) hfn hw⟩
theorem met8 (os : Os) : laidMet Tryz.prog Rows.connAllRow.laid ((laidWorld os).forCall (fun _ _ => 0) ⟨#[], #[.int .i64 0, .slice none 0 0], []⟩).memory :=
  laidMet_of_run' 8 (by kernel_rfl) (by kernel_rfl)
theorem reads8 (os : Os) {H : Type} (enc : TypeId × Value → H) : ∃ places, DataW.whole enc Tryz.prog ((laidWorld os).forCall (fun _ _ => 0) ⟨#[], #[.int .i64 0, .slice none 0 0], []⟩).memory Tryz.f8.params.toList Rows.connQuitsSpec.vars false (#[.int .i64 0, .slice none 0 0] : Array Value).toList 8 = some ([.lit (.int .i64 0), .nil], [], places) :=
  ⟨[], by kernel_rfl⟩
theorem wv8 (os : Os) : ((laidWorld os).forCall (fun _ _ => 0) ⟨#[], #[.int .i64 0, .slice none 0 0], []⟩).variablesRefB Tryz.prog = true := by kernel_rfl
theorem wr8 (os : Os) : (((laidWorld os).forCall (fun _ _ => 0) ⟨#[], #[.int .i64 0, .slice none 0 0], []⟩).heap.toList.drop Tryz.prog.globals.size).take ((begin Tryz.prog (fun _ _ => 0) default).world.heap.size - Tryz.prog.globals.size) =
      (begin Tryz.prog (fun _ _ => 0) default).world.heap.toList.drop Tryz.prog.globals.size := by kernel_rfl
theorem wo8 (os : Os) : Input.okWideB Tryz.prog ((laidWorld os).forCall (fun _ _ => 0) ⟨#[], #[.int .i64 0, .slice none 0 0], []⟩) 8 ⟨#[], #[.int .i64 0, .slice none 0 0], []⟩ = true := by kernel_rfl
theorem ws8 (os : Os) (H : Type) (enc : TypeId × Value → H) : (OpenSpec.ofChange Rows.connQuitsSpec).bare.sizedB enc Tryz.prog Tryz.f8 false ((laidWorld os).forCall (fun _ _ => 0) ⟨#[], #[.int .i64 0, .slice none 0 0], []⟩).memory #[.int .i64 0, .slice none 0 0] 8 = true := by kernel_rfl
theorem wh8 {W : World} (h : laidMet Tryz.prog Rows.connAllRow.laid W) : laidMetH Tryz.prog Rows.connQuitsRow.laid W := h
theorem wi8 : Tryz.checked.prog.inits.idxOf? 8 = none := by kernel_rfl
theorem wc8 (H : Type) : Rows.connQuitsRow.domain.all (PathCond.test Tryz.prog ⟨Tryz.f8.params.toList, [.lit (.int .i64 0), .nil], (OpenSpec.ofChange Rows.connQuitsSpec).bare.plain.varTypes Tryz.prog, ([] : List (DataW H))⟩) = true := by kernel_rfl
theorem lifted8 (os : Os) (started : os.Started) (H : Type) (enc : TypeId × Value → H) (F : Stop.Interp) :
    ReturnsInHanded {} Tryz.checked os 8 .any ((OpenSpec.ofChange Rows.connQuitsSpec).preRow enc Tryz.prog Tryz.f8 Rows.connQuitsRow.domain false Rows.connQuitsRow.laid) (((OpenSpec.ofChange Rows.connQuitsSpec).at F).post enc Tryz.prog Tryz.f8 false true false false) := by
  obtain ⟨places, hx⟩ := reads8 os enc
  refine returnsInHanded_of_row (C := Tryz.checked) (s := OpenSpec.ofChange Rows.connQuitsSpec) own started wi8 Tryz.func8
    (witness_row_atRef (enc := enc) (C := Tryz.checked) false (laidWorld os) #[.int .i64 0, .slice none 0 0] rfl (wv8 os) (wr8 os) (wo8 os)
      (OpenSpec.preRow_of_cond 8 hx (wc8 H) (fun k hk => by cases hk) (ws8 os H enc) (wh8 (met8 os)))) ?_
  intro W base args ds gs before hval hW _ _ _ hL hs _
  exact contract8 H enc W base args ds gs before hval hW hL hs
theorem ja8 : (Rows.connQuitsRow.inPlace == Tryz.pinned.checked.prog.inPlace 8) = true := by kernel_rfl
theorem jb8 : (Rows.connQuitsRow.unfollowed == Tryz.pinned.checked.prog.unfollowed 8) = true := by kernel_rfl
theorem jc8 : (Rows.connQuitsRow.recurses == Tryz.pinned.checked.prog.recurses 8) = true := by kernel_rfl
theorem jd8 : (Rows.connQuitsRow.named == Tryz.pinned.checked.prog.varsNamed 8) = true := by kernel_rfl
theorem joined8 : joinedFacts Tryz.pinned.checked.prog 8 Tryz.f8 (OpenSpec.ofChange Rows.connQuitsSpec).bare Rows.connQuitsRow = true := by
  unfold joinedFacts
  rw [ja8, jb8, jc8, jd8]
  kernel_rfl
theorem said8 : Rows.ConnQuitsSaid :=
  OpenClaim.holds_of_cond 8 Tryz.f8 rfl rfl rfl rfl rfl rfl rfl ⟨rfl, rfl, rfl, rfl, rfl⟩ rfl rfl rfl rfl rfl (by kernel_rfl) Tryz.func8 joined8
    (of_decide_eq_true (by kernel_rfl)) (by unfold Func.isWrapper; first | (rw [if_pos (by decide +kernel)]; kernel_rfl) | (rw [if_neg (by decide +kernel)]; exact ⟨rfl, rfl⟩))
    (fun os started H enc _ F => by rw [OpenClaim.pre_eq_preRow]; exact lifted8 os started H enc F)
theorem plain8 (f : FuncId) (fn : Func) (hf : Tryz.pinned.checked.prog.funcNamed "usher/usherlaw21.ConnQuits" = some f) (hfn : Tryz.pinned.checked.prog.funcs[f]? = some fn) :
    true = Tryz.pinned.checked.prog.looks [] ∧ ∀ (j : Nat) t, fn.params[j]? = some t → Tryz.pinned.checked.prog.wantsStandIn t = false := by
  obtain rfl : f = 8 := Option.some.inj ((show Tryz.prog.funcNamed "usher/usherlaw21.ConnQuits" = some 8 by kernel_rfl).symm.trans hf) |>.symm
  obtain rfl : fn = Tryz.f8 := (Option.some.inj (Tryz.func8.symm.trans hfn)).symm
  refine ⟨by kernel_rfl, fun j t ht => ?_⟩
  have key : (Tryz.f8.params.toList.all fun t => !Tryz.prog.wantsStandIn t) = true := by kernel_rfl
  have hm : t ∈ Tryz.f8.params.toList := by simpa using Array.mem_of_getElem? ht
  show Tryz.prog.wantsStandIn t = false
  simpa using List.all_eq_true.1 key t hm
theorem kw8 : Rows.connQuitsRow.wfByText (OpenSpec.ofChange Rows.connQuitsSpec) = true := by kernel_rfl
theorem km8 : Tryz.pinned.checked.prog.mainIs = some (Rows.connQuitsCard.stood.harness.1, Rows.connQuitsCard.stood.harness.2.toList) := by kernel_rfl
theorem kg8 : false = Rows.connQuitsRow.goesBy Tryz.pinned.checked.prog := by kernel_rfl
theorem connQuits_holds : Rows.ConnQuitsCardSaid :=
  Claim7.holds_tied_plain_at .later [] _ _ _ _ said8 (fun _ h => by cases h) kw8 (fun _ h => by cases h) connQuits_row_tie rfl ⟨rfl, rfl⟩ km8 rfl plain8 kg8
end Go.Proofs.YtmgkfcdmpbcmkaaGreatDoor
