/- A text of the claim: SK. -/
import Derived.Test.YtmgkfcdmpbcmkaaGreatDoorG
import Derived.Test.YtmgkfcdmpbcmkaaGreatDoorAmF
/- The seat's common lines. -/
namespace Go.Am
open Go.Proofs Go.Proofs.YtmgkfcdmpbcmkaaGreatDoor Go.ChangeShapes Go.WideShapes Go.ChangeAt Go.RowKit
set_option maxRecDepth 1000000
theorem own : ownKnob Tryz.prog.godebug = none := by kernel_rfl
theorem laidOut : laidOutB Tryz.prog = true := by kernel_rfl
theorem enters {f : FuncId} {fn : Func} (hf : Tryz.prog.funcs[f]? = some fn) (hn : (fn.name != "runtime.NumGoroutine") = true) (hb : fn.body.isNone = false) (args : Array Value) (w : World) : (callFunc f args).run Tryz.prog w = .ok (.enter f args) w := by
  have h1 : fn.name ≠ "runtime.NumGoroutine" := by simpa using hn
  simp [callFunc, hf, h1]
  intro h
  rw [h] at hb
  cases hb
theorem run_law {f : FuncId} (hne : f ≠ recId) {W : World} {xs : List AV} {vs : Array Value} (hs : W.ShapedOpen Tryz.prog) (hL : laidMetH Tryz.prog Rows.connAllRow.laid W) (l : List (List AV)) (bs : List (Nat × Nat × Nat)) (hl : l.length = bs.length)
    (h : ∀ (b : Nat) x cs, bs[b]? = some x → l[b]? = some cs → Seen (initI (bG ++ bs)) W x cs) (ha : VRels (initI (bG ++ bs)) xs vs.toList) (hcall : (callFunc f vs).run Tryz.prog W = .ok (.enter f vs) W)
    (hrun : okT (callS Tryz.prog XX TT HH 100000 f xs (initH (lG ++ l))) = true) : Calls Tryz.prog f vs W fun e w' => e = .returned (.bool true) ∧ Stays W w' := by
  refine run_true progOK hne (seatRel hs hL l bs hl h) (seatGlob bs) ha (seatRo l bs hl) hcall 100000 ?_
  rw [← callS_eq tabOK]
  exact hrun
end Go.Am
