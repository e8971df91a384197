/- A text of the claim: SX. -/
import Derived.Test.YtmgkfcdmpbcmkaaGreatDoorT
import Derived.Test.YtmgkfcdmpbcmkaaGreatDoorJ
import Derived.Test.YtmgkfcdmpbcmkaaGreatDoorAmF
namespace Go.Am
open Go.Proofs
set_option maxRecDepth 1000000
set_option linter.unusedVariables false
theorem mixOK : Tryz.prog.follows .mixedOrders = true := by kernel_rfl
theorem ixOK : IsExt Tryz.prog 245 Extern.BytealgIndexByte.indexByte := ⟨_, Tryz.func245, by decide +kernel, by kernel_rfl, by kernel_rfl, by kernel_rfl⟩
theorem ctOK : IsExt Tryz.prog 263 Extern.BytealgCount.count := ⟨_, Tryz.func263, by decide +kernel, by kernel_rfl, by kernel_rfl, by kernel_rfl⟩
noncomputable def sd269 : ShFn := fun C Lp xs => match xs with
  | [a0, a1] => F269 C Lp a0 a1
  | xs => evalDef Tryz.prog C Lp Tryz.f269 D269 xs
theorem SE269 (C : CallOp) (Lp : LoopOp) (xs : List AV) : sd269 C Lp xs = evalDef Tryz.prog C Lp Tryz.f269 D269 xs := by
  unfold sd269; split
  · exact (DL269 C Lp _ _).symm
  · rfl
theorem DC269 : defChk Tryz.prog 8 D269 = true := by decide +kernel
theorem SS269 {C : CallOp} {N : Nat} (hC : CallOK Tryz.prog 8 C) (hrec : ∀ h, C recId [] h = .bad) {μ : Inj} {h : AHeap} {w : World} {xs : List AV} {vs : Array Value} (hr : Rel μ h w) (hg : GlobOK 8 μ) (ha : VRels μ xs vs.toList) (hb : sd269 C (loopN N) xs h ≠ .bad) : Meets Tryz.prog μ h w (sd269 C (loopN N) xs h) ((callFunc 269 vs).run Tryz.prog w) := by
  rw [SE269] at hb ⊢
  have hn : Tryz.f269.name ≠ "runtime.NumGoroutine" := by decide +kernel
  have hbd : Tryz.f269.body.isNone = false := by decide +kernel
  have hcall : (callFunc 269 vs).run Tryz.prog w = .ok (.enter 269 vs) w := by
    simp [callFunc, Tryz.func269, hn]
    intro h
    rw [h] at hbd
    cases hbd
  rw [hcall]
  exact evalDef_sound mixOK hC hrec Tryz.func269 (defOf_ok DK269 Tryz.func300 DC269) hr hg ha hb
noncomputable def XX : Special := fun C Lp f => cond (Nat.beq f 269) (some (sd269 C Lp)) (cond (Nat.beq f 245) (some idxA) (cond (Nat.beq f 263) (some cntA) (cond (Nat.beq f 164) (some joinA) (none))))
theorem specOK : SpecialOK Tryz.prog 8 XX := by
  refine ⟨fun C Lp => by rfl, ?_⟩
  intro C N hC hrec f g hx μ h w xs vs hr hg ha hb
  unfold XX at hx
  cases h269 : Nat.beq f 269 with
  | true =>
    rw [h269, cond_true] at hx
    cases hx
    rw [Nat.eq_of_beq_eq_true h269]
    exact SS269 hC hrec hr hg ha hb
  | false =>
  rw [h269, cond_false] at hx
  cases h245 : Nat.beq f 245 with
  | true =>
    rw [h245, cond_true] at hx
    cases hx
    rw [Nat.eq_of_beq_eq_true h245]
    exact idxA_sound ixOK hr ha hb
  | false =>
  rw [h245, cond_false] at hx
  cases h263 : Nat.beq f 263 with
  | true =>
    rw [h263, cond_true] at hx
    cases hx
    rw [Nat.eq_of_beq_eq_true h263]
    exact cntA_sound ctOK hr ha hb
  | false =>
  rw [h263, cond_false] at hx
  cases h164 : Nat.beq f 164 with
  | true =>
    rw [h164, cond_true] at hx
    cases hx
    rw [Nat.eq_of_beq_eq_true h164]
    exact joinA_sound joinOK hr ha hb
  | false =>
  rw [h164, cond_false] at hx
  cases hx
theorem namesOK : (Tryz.prog.funcs.toList.all fun fn => fn.name != "runtime.NumGoroutine") = true := by decide +kernel
noncomputable def cok (f : Nat) : Bool := match Tryz.prog.funcs[f]? with
  | some fn => match fn.body with
    | some c => codeOK Tryz.prog 8 c (HH f)
    | none => true
  | none => true
theorem cok0 : (List.range 40).all (fun i => cok (0 + i)) = true := by decide +kernel
theorem cok40 : (List.range 40).all (fun i => cok (40 + i)) = true := by decide +kernel
theorem cok80 : (List.range 40).all (fun i => cok (80 + i)) = true := by decide +kernel
theorem cok120 : (List.range 40).all (fun i => cok (120 + i)) = true := by decide +kernel
theorem cok160 : (List.range 40).all (fun i => cok (160 + i)) = true := by decide +kernel
theorem cok200 : (List.range 40).all (fun i => cok (200 + i)) = true := by decide +kernel
theorem cok240 : (List.range 40).all (fun i => cok (240 + i)) = true := by decide +kernel
theorem cok280 : (List.range 40).all (fun i => cok (280 + i)) = true := by decide +kernel
theorem cok320 : (List.range 40).all (fun i => cok (320 + i)) = true := by decide +kernel
theorem cok360 : (List.range 40).all (fun i => cok (360 + i)) = true := by decide +kernel
theorem cok400 : (List.range 12).all (fun i => cok (400 + i)) = true := by decide +kernel
theorem sizeOK : Tryz.prog.funcs.size = 412 := by decide +kernel
theorem cokAll (f : Nat) : cok f = true := by
  have key : ∀ a n, (List.range n).all (fun i => cok (a + i)) = true → a ≤ f → f < a + n → cok f = true := fun a n h h1 h2 => by
    have := List.all_eq_true.1 h (f - a) (by simp; omega)
    rwa [show a + (f - a) = f by omega] at this
  by_cases h0 : f < 40
  · exact key 0 _ cok0 (by omega) (by omega)
  by_cases h40 : f < 80
  · exact key 40 _ cok40 (by omega) (by omega)
  by_cases h80 : f < 120
  · exact key 80 _ cok80 (by omega) (by omega)
  by_cases h120 : f < 160
  · exact key 120 _ cok120 (by omega) (by omega)
  by_cases h160 : f < 200
  · exact key 160 _ cok160 (by omega) (by omega)
  by_cases h200 : f < 240
  · exact key 200 _ cok200 (by omega) (by omega)
  by_cases h240 : f < 280
  · exact key 240 _ cok240 (by omega) (by omega)
  by_cases h280 : f < 320
  · exact key 280 _ cok280 (by omega) (by omega)
  by_cases h320 : f < 360
  · exact key 320 _ cok320 (by omega) (by omega)
  by_cases h360 : f < 400
  · exact key 360 _ cok360 (by omega) (by omega)
  by_cases h400 : f < 412
  · exact key 400 _ cok400 (by omega) (by omega)
  have hn : Tryz.prog.funcs[f]? = none := Array.getElem?_eq_none (by rw [sizeOK]; omega)
  unfold cok
  rw [hn]
theorem progOK : ProgOK Tryz.prog 8 XX HH where
  mix := mixOK
  noRec := by kernel_rfl
  name := fun f fn c hf hb => by
    have hm : fn ∈ Tryz.prog.funcs.toList := by simpa using Array.mem_of_getElem? hf
    simpa using List.all_eq_true.1 namesOK fn hm
  code := fun f fn c hf hb => by
    have := cokAll f
    unfold cok at this
    rw [hf] at this
    simp only [hb] at this
    exact this
  special := specOK
end Go.Am
