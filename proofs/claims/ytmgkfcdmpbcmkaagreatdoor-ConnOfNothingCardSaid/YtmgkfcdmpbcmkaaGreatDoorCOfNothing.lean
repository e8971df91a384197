/- usherlaw21.ConnOfNothing: whatever the input, the call returns true, and each argument reads behind it as it read before. Conditions: the row's own (the package-level variables start as the program's text lays them). -/
import Derived.Test.YtmgkfcdmpbcmkaaGreatDoorK
namespace Go.Am
open Go.Proofs Go.Proofs.YtmgkfcdmpbcmkaaGreatDoor Go.ChangeShapes Go.WideShapes Go.ChangeAt Go.RowKit
set_option maxRecDepth 1000000
noncomputable def ofnRest (C : CallOp) (a0 a1 : AV) : AM AV :=
 @AM.bind AV AV (C 15 [(.ptr none), a0, a1]) fun v2 =>
 @AM.bind AV AV (C 34 [(.ptr none), a1]) fun _ =>
 @AM.bind AV AV (C 18 [(.ptr none), a1, a1]) fun _ =>
 @AM.bind AV AV (C 23 [(.ptr none), a1]) fun _ =>
 @AM.bind AV AV (C 32 [(.ptr none), a1]) fun _ =>
 @AM.bind AV AV (C 38 [(.ptr none)]) fun _ =>
 @AM.bind AV AV (C 39 [(.ptr none), a1, a1]) fun _ =>
 @AM.bind AV AV (C 30 [(.ptr none)]) fun v9 =>
 @AM.bind AV AV (extA v9 0) fun v10 =>
 @AM.bind AV AV (extA v9 1) fun v11 =>
 @AM.bind AV AV (C 25 [(.ptr none)]) fun v12 =>
 @AM.bind AV AV (extA v12 0) fun v13 =>
 @AM.bind AV AV (extA v12 1) fun v14 =>
 @AM.bind AV AV (C 24 [(.ptr none)]) fun v15 =>
 @AM.bind AV AV (extA v15 0) fun v16 =>
 @AM.bind AV AV (extA v15 1) fun v17 =>
 @AM.bind AV AV (C 27 [(.ptr none)]) fun v18 =>
 @AM.bind AV AV (extA v18 0) fun v19 =>
 @AM.bind AV AV (extA v18 1) fun v20 =>
 @AM.bind AV AV (extA v18 2) fun v21 =>
 @AM.bind AV AV (C 14 []) fun v22 =>
 @AM.bind AV AV (C 40 [v22, (.ptr none), (.ptr none), (.int .i64 (.ofNat 0))]) fun v23 =>
 @AM.bind AV AV (extA v23 0) fun v24 =>
 @AM.bind AV AV (extA v23 1) fun v25 =>
 @AM.bind AV AV (C 28 [(.ptr none)]) fun v26 =>
 @AM.bind AV AV (bn Tryz.prog .add 3 false v2 v26) fun v27 =>
 @AM.bind AV AV (bn Tryz.prog .add 3 false v27 v13) fun v28 =>
 @AM.bind AV AV (bn Tryz.prog .add 3 false v28 v14) fun v29 =>
 @AM.bind AV AV (bn Tryz.prog .add 3 false v29 v16) fun v30 =>
 @AM.bind AV AV (bn Tryz.prog .add 3 false v30 v19) fun v31 =>
 @AM.bind AV AV (bn Tryz.prog .add 3 false v31 v20) fun v32 =>
 @AM.bind AV AV (bn Tryz.prog .add 3 false v32 v21) fun v33 =>
 @AM.bind AV AV (bn Tryz.prog .eql 3 true v33 (.int .i64 (.ofNat 0))) fun v34 =>
 @AM.bind AV AV (guardA v34 true (.ret v10)) fun v35 =>
 @AM.bind AV AV (guardA v34 true (un .not v35)) fun v36 =>
 @AM.bind AV AV (pickA v34 v36 (.bool false)) fun v37 =>
 @AM.bind AV AV (guardA v37 true (.ret v11)) fun v38 =>
 @AM.bind AV AV (guardA v37 true (un .not v38)) fun v39 =>
 @AM.bind AV AV (pickA v37 v39 (.bool false)) fun v40 =>
 @AM.bind AV AV (guardA v40 true (.ret v17)) fun v41 =>
 @AM.bind AV AV (guardA v40 true (un .not v41)) fun v42 =>
 @AM.bind AV AV (pickA v40 v42 (.bool false)) fun v43 =>
 @AM.bind AV AV (guardA v43 true (.ret (.ptr none))) fun v44 =>
 @AM.bind AV AV (guardA v43 true (C 33 [v44])) fun v45 =>
 @AM.bind AV AV (guardA v43 true (un .not v45)) fun v46 =>
 @AM.bind AV AV (pickA v43 v46 (.bool false)) fun v47 =>
 @AM.bind AV AV (guardA v47 true (.ret v24)) fun v48 =>
 @AM.bind AV AV (guardA v47 true (bn Tryz.prog .eql 32 true v48 (.ptr none))) fun v49 =>
 @AM.bind AV AV (pickA v47 v49 (.bool false)) fun v50 =>
 @AM.bind AV AV (guardA v50 true (.ret v25)) fun v51 =>
 @AM.bind AV AV (guardA v50 true (bn Tryz.prog .eql 76 true v51 (.int .i64 (.ofNat 1)))) fun v52 =>
 @AM.bind AV AV (pickA v50 v52 (.bool false)) fun v53 =>
 @AM.bind AV AV (guardA v53 true (C 12 [])) fun v54 =>
 @AM.bind AV AV (pickA v53 v54 (.bool false)) fun v55 =>
 @AM.ret AV v55
theorem ofn_part {a0 : AV} {n : Int} {h : AHeap} (len : Nat) (h1 : okT (callS Tryz.prog XX TT HH 100000 11 [a0, .int .i64 n] h) = okT (@bcond AV (.bool (decide ((Int.ofNat len) > 6000))) (@AM.ret AV (.bool true)) (ofnRest (callS Tryz.prog XX TT HH 99999) a0 (.int .i64 n)) h))
    (h2 : okT (ofnRest (callS Tryz.prog XX TT HH 99999) a0 (.int .i64 n) h) = true) : okT (callS Tryz.prog XX TT HH 100000 11 [a0, .int .i64 n] h) = true := by
  rw [h1]
  cases decide ((Int.ofNat len) > 6000)
  · exact h2
  · rfl
theorem ofn_nil (n : Int) : okT (callS Tryz.prog XX TT HH 100000 11 [.snil, .int .i64 n] (initH (lG ++ []))) = true :=
  ofn_part 0 (by kernel_rfl) (by kernel_rfl)
theorem ofn_zero (n : Int) : okT (callS Tryz.prog XX TT HH 100000 11 [.szero, .int .i64 n] (initH (lG ++ []))) = true :=
  ofn_part 0 (by kernel_rfl) (by kernel_rfl)
theorem ofn_sl (len : Nat) (n : Int) (X : List AV) : okT (callS Tryz.prog XX TT HH 100000 11 [.sl 8 0 len 1, .int .i64 n] (initH (lG ++ [X]))) = true :=
  ofn_part len (by kernel_rfl) (by kernel_rfl)
theorem walk11a {H : Type} {enc : TypeId × Value → H} {W : World} (hs : W.ShapedOpen Tryz.prog) (hL : laidMetH Tryz.prog Rows.connAllRow.laid W) {v0 v1 : Value} {d0 d1 : DataW H} {p0 p1 : List MemPlace}
    {b0 : Nat} (hv0 : Value.okWide Tryz.prog W .any b0 22 v0) (hv1 : Value.okWide Tryz.prog W .any b0 3 v1) (h0 : DataW.Trod enc Tryz.prog W 0 (fun _ => true) true 22 v0 d0 p0) (h1 : DataW.Trod enc Tryz.prog W 0 (fun _ => true) true 3 v1 d1 p1) :
    Calls Tryz.prog 11 #[v0, v1] W fun e w' => e = .returned (.bool true) ∧ Stays W w' := by
  obtain ⟨n, rfl, _⟩ := open_int Tryz.underlying3 hv1 h1
  have hc : ∀ vs w, (callFunc 11 vs).run Tryz.prog w = .ok (.enter 11 vs) w := enters Tryz.func11 (by decide +kernel) (by decide +kernel)
  rcases arg_ints Tryz.underlying22 Tryz.underlying5 (by kernel_rfl) hv0 h0 with rfl | ⟨a, rfl⟩ | ⟨C, o, len, cap, S, zs, rfl, h2, h3, h4, h5, h6⟩
  · exact run_law (xs := [.snil, .int .i64 n]) (by decide) hs hL [] [] rfl (fun b x cs e => by simp at e) ⟨_, _, rfl, rfl, _, _, rfl, rfl, rfl⟩ (hc _ _) (ofn_nil n)
  · exact run_law (xs := [.szero, .int .i64 n]) (by decide) hs hL [] [] rfl (fun b x cs e => by simp at e) ⟨_, _, rfl, ⟨a, rfl⟩, _, _, rfl, rfl, rfl⟩ (hc _ _) (ofn_zero n)
  · refine run_law (xs := [.sl 8 0 len 1, .int .i64 n]) (by decide) hs hL [zs.map fun z => .int .u8 z] [(C, o, S)] rfl (fun b x cs e1 e2 => ?_) ⟨_, _, rfl, h6 _ 8 rfl, _, _, rfl, rfl, rfl⟩ (hc _ _) (ofn_sl len n _)
    match b, e1, e2 with
    | 0, e1, e2 => cases e1; cases e2; exact h5 _
    | n + 1, e1, _ => simp at e1

theorem walk11 {H : Type} {enc : TypeId × Value → H} {W : World} (hs : W.ShapedOpen Tryz.prog) (hL : laidMetH Tryz.prog Rows.connAllRow.laid W) {args : Array Value} {ds : List (DataW H)} {p : List MemPlace} {b0 : Nat}
    (hval : ∀ (j : Nat) t v, (#[22, 3] : Array TypeId)[j]? = some t → args[j]? = some v → Value.okWide Tryz.prog W .any b0 t v) (hA : DataW.TrodAll enc Tryz.prog W 0 (fun _ => true) true (#[22, 3] : Array TypeId).toList args.toList ds p) :
    Calls Tryz.prog 11 args W fun e w' => e = .returned (.bool true) ∧ Stays W w' := by
  obtain ⟨v0, v1, d0, d1, p0, p1, rfl, rfl, rfl, h0, h1⟩ := trodAll_two hA
  exact walk11a hs hL (hval 0 22 v0 rfl rfl) (hval 1 3 v1 rfl rfl) h0 h1
theorem fn_11 {H : Type} {enc : TypeId × Value → H} {W : World} {args : Array Value} {ds : List (DataW H)} {p : List MemPlace} (hA : DataW.TrodAll enc Tryz.prog W 0 (fun _ => true) true (#[22, 3] : Array TypeId).toList args.toList ds p) :
    Rows.connOfNothingSpec.fn H (ds ++ []) = { results := [.lit (.bool true)], args := ds } := by
  obtain ⟨v0, v1, d0, d1, p0, p1, rfl, rfl, rfl, h0, h1⟩ := trodAll_two hA
  rfl
end Go.Am

namespace Go.Proofs.YtmgkfcdmpbcmkaaGreatDoor
open Go.Am Go.ChangeShapes Go.WideShapes Go.ChangeAt Go.RowKit
set_option maxRecDepth 1000000
theorem contract11 (H : Type) (enc : TypeId × Value → H) (W : World) (base : Nat) (args : Array Value) (ds gs : List (DataW H)) (before : List MemPlace)
    (hval : ∀ (j : Nat) t v, Tryz.f11.params[j]? = some t → args[j]? = some v → Value.okWide Tryz.prog W .any base t v)
    (hW : DataW.Whole enc Tryz.prog Tryz.f11.params.toList Rows.connOfNothingSpec.vars false W args.toList ds gs before) (hL : laidMetH Tryz.prog Rows.connAllRow.laid W) (hs : W.ShapedOpen Tryz.prog) :
    Calls Tryz.prog 11 args W fun e W' => ∃ v, e = .returned v ∧ Rows.connOfNothingSpec.post enc Tryz.prog Tryz.f11 false true false false W args v W' := by
  have hW' := hW
  obtain ⟨p, q, hA, hV, rfl, hfz, hnd⟩ := hW
  have hfn : Rows.connOfNothingSpec.fn H (ds ++ gs) = { results := [.lit (.bool true)], args := ds } := by
    obtain ⟨rfl, rfl⟩ := trodVars_none hV
    rw [Tryz.params11] at hA
    exact fn_11 hA
  rw [Tryz.params11] at hA hval
  refine (walk11 hs hL hval hA).mono fun e W' ⟨he, hw⟩ => ?_
  subst he
  exact ⟨_, rfl, law_post laidOut hW' rfl (by kernel_rfl) Tryz.underlying4 (by decide +kernel) hfn hw⟩
theorem met11 (os : Os) : laidMet Tryz.prog Rows.connAllRow.laid ((laidWorld os).forCall (fun _ _ => 0) ⟨#[], #[.slice none 0 0, .int .i64 0], []⟩).memory :=
  laidMet_of_run' 8 (by kernel_rfl) (by kernel_rfl)
theorem reads11 (os : Os) {H : Type} (enc : TypeId × Value → H) : ∃ places, DataW.whole enc Tryz.prog ((laidWorld os).forCall (fun _ _ => 0) ⟨#[], #[.slice none 0 0, .int .i64 0], []⟩).memory Tryz.f11.params.toList Rows.connOfNothingSpec.vars false (#[.slice none 0 0, .int .i64 0] : Array Value).toList 8 = some ([.nil, .lit (.int .i64 0)], [], places) :=
  ⟨[], by kernel_rfl⟩
theorem wv11 (os : Os) : ((laidWorld os).forCall (fun _ _ => 0) ⟨#[], #[.slice none 0 0, .int .i64 0], []⟩).variablesRefB Tryz.prog = true := by kernel_rfl
theorem wr11 (os : Os) : (((laidWorld os).forCall (fun _ _ => 0) ⟨#[], #[.slice none 0 0, .int .i64 0], []⟩).heap.toList.drop Tryz.prog.globals.size).take ((begin Tryz.prog (fun _ _ => 0) default).world.heap.size - Tryz.prog.globals.size) =
      (begin Tryz.prog (fun _ _ => 0) default).world.heap.toList.drop Tryz.prog.globals.size := by kernel_rfl
theorem wo11 (os : Os) : Input.okWideB Tryz.prog ((laidWorld os).forCall (fun _ _ => 0) ⟨#[], #[.slice none 0 0, .int .i64 0], []⟩) 11 ⟨#[], #[.slice none 0 0, .int .i64 0], []⟩ = true := by kernel_rfl
theorem ws11 (os : Os) (H : Type) (enc : TypeId × Value → H) : (OpenSpec.ofChange Rows.connOfNothingSpec).bare.sizedB enc Tryz.prog Tryz.f11 false ((laidWorld os).forCall (fun _ _ => 0) ⟨#[], #[.slice none 0 0, .int .i64 0], []⟩).memory #[.slice none 0 0, .int .i64 0] 8 = true := by kernel_rfl
theorem wh11 {W : World} (h : laidMet Tryz.prog Rows.connAllRow.laid W) : laidMetH Tryz.prog Rows.connOfNothingRow.laid W := h
theorem wi11 : Tryz.checked.prog.inits.idxOf? 11 = none := by kernel_rfl
theorem wc11 (H : Type) : Rows.connOfNothingRow.domain.all (PathCond.test Tryz.prog ⟨Tryz.f11.params.toList, [.nil, .lit (.int .i64 0)], (OpenSpec.ofChange Rows.connOfNothingSpec).bare.plain.varTypes Tryz.prog, ([] : List (DataW H))⟩) = true := by kernel_rfl
theorem lifted11 (os : Os) (started : os.Started) (H : Type) (enc : TypeId × Value → H) (F : Stop.Interp) :
    ReturnsInHanded {} Tryz.checked os 11 .any ((OpenSpec.ofChange Rows.connOfNothingSpec).preRow enc Tryz.prog Tryz.f11 Rows.connOfNothingRow.domain false Rows.connOfNothingRow.laid) (((OpenSpec.ofChange Rows.connOfNothingSpec).at F).post enc Tryz.prog Tryz.f11 false true false false) := by
  obtain ⟨places, hx⟩ := reads11 os enc
  refine returnsInHanded_of_row (C := Tryz.checked) (s := OpenSpec.ofChange Rows.connOfNothingSpec) own started wi11 Tryz.func11
    (witness_row_atRef (enc := enc) (C := Tryz.checked) false (laidWorld os) #[.slice none 0 0, .int .i64 0] rfl (wv11 os) (wr11 os) (wo11 os)
      (OpenSpec.preRow_of_cond 8 hx (wc11 H) (fun k hk => by cases hk) (ws11 os H enc) (wh11 (met11 os)))) ?_
  intro W base args ds gs before hval hW _ _ _ hL hs _
  exact contract11 H enc W base args ds gs before hval hW hL hs
theorem ja11 : (Rows.connOfNothingRow.inPlace == Tryz.pinned.checked.prog.inPlace 11) = true := by kernel_rfl
theorem jb11 : (Rows.connOfNothingRow.unfollowed == Tryz.pinned.checked.prog.unfollowed 11) = true := by kernel_rfl
theorem jc11 : (Rows.connOfNothingRow.recurses == Tryz.pinned.checked.prog.recurses 11) = true := by kernel_rfl
theorem jd11 : (Rows.connOfNothingRow.named == Tryz.pinned.checked.prog.varsNamed 11) = true := by kernel_rfl
theorem joined11 : joinedFacts Tryz.pinned.checked.prog 11 Tryz.f11 (OpenSpec.ofChange Rows.connOfNothingSpec).bare Rows.connOfNothingRow = true := by
  unfold joinedFacts
  rw [ja11, jb11, jc11, jd11]
  kernel_rfl
theorem said11 : Rows.ConnOfNothingSaid :=
  OpenClaim.holds_of_cond 11 Tryz.f11 rfl rfl rfl rfl rfl rfl rfl ⟨rfl, rfl, rfl, rfl, rfl⟩ rfl rfl rfl rfl rfl (by kernel_rfl) Tryz.func11 joined11
    (of_decide_eq_true (by kernel_rfl)) (by unfold Func.isWrapper; first | (rw [if_pos (by decide +kernel)]; kernel_rfl) | (rw [if_neg (by decide +kernel)]; exact ⟨rfl, rfl⟩))
    (fun os started H enc _ F => by rw [OpenClaim.pre_eq_preRow]; exact lifted11 os started H enc F)
theorem plain11 (f : FuncId) (fn : Func) (hf : Tryz.pinned.checked.prog.funcNamed "usher/usherlaw21.ConnOfNothing" = some f) (hfn : Tryz.pinned.checked.prog.funcs[f]? = some fn) :
    true = Tryz.pinned.checked.prog.looks [] ∧ ∀ (j : Nat) t, fn.params[j]? = some t → Tryz.pinned.checked.prog.wantsStandIn t = false := by
  obtain rfl : f = 11 := Option.some.inj ((show Tryz.prog.funcNamed "usher/usherlaw21.ConnOfNothing" = some 11 by kernel_rfl).symm.trans hf) |>.symm
  obtain rfl : fn = Tryz.f11 := (Option.some.inj (Tryz.func11.symm.trans hfn)).symm
  refine ⟨by kernel_rfl, fun j t ht => ?_⟩
  have key : (Tryz.f11.params.toList.all fun t => !Tryz.prog.wantsStandIn t) = true := by kernel_rfl
  have hm : t ∈ Tryz.f11.params.toList := by simpa using Array.mem_of_getElem? ht
  show Tryz.prog.wantsStandIn t = false
  simpa using List.all_eq_true.1 key t hm
theorem kw11 : Rows.connOfNothingRow.wfByText (OpenSpec.ofChange Rows.connOfNothingSpec) = true := by kernel_rfl
theorem km11 : Tryz.pinned.checked.prog.mainIs = some (Rows.connOfNothingCard.stood.harness.1, Rows.connOfNothingCard.stood.harness.2.toList) := by kernel_rfl
theorem kg11 : false = Rows.connOfNothingRow.goesBy Tryz.pinned.checked.prog := by kernel_rfl
theorem connOfNothing_holds : Rows.ConnOfNothingCardSaid :=
  Claim7.holds_tied_plain_at .later [] _ _ _ _ said11 (fun _ h => by cases h) kw11 (fun _ h => by cases h) connOfNothing_row_tie rfl ⟨rfl, rfl⟩ km11 rfl plain11 kg11
end Go.Proofs.YtmgkfcdmpbcmkaaGreatDoor
