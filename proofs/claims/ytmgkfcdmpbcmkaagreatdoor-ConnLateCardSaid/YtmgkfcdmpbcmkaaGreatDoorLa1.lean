/- A text of the claim: SLa1. -/
import Derived.Test.YtmgkfcdmpbcmkaaGreatDoorG
namespace Go.Am
open Go.Proofs
set_option maxRecDepth 1000000
theorem late_false_1 : okT (callS Tryz.prog XX TT HH 100000 4 [.bool false, .int .i64 (.ofNat 1)] (initH (lG ++ []))) = true := by decide +kernel
theorem late_false_3 : okT (callS Tryz.prog XX TT HH 100000 4 [.bool false, .int .i64 (.ofNat 3)] (initH (lG ++ []))) = true := by decide +kernel
theorem late_false_5 : okT (callS Tryz.prog XX TT HH 100000 4 [.bool false, .int .i64 (.ofNat 5)] (initH (lG ++ []))) = true := by decide +kernel
theorem late_false_7 : okT (callS Tryz.prog XX TT HH 100000 4 [.bool false, .int .i64 (.ofNat 7)] (initH (lG ++ []))) = true := by decide +kernel
theorem late_false_9 : okT (callS Tryz.prog XX TT HH 100000 4 [.bool false, .int .i64 (.ofNat 9)] (initH (lG ++ []))) = true := by decide +kernel
theorem late_false_11 : okT (callS Tryz.prog XX TT HH 100000 4 [.bool false, .int .i64 (.ofNat 11)] (initH (lG ++ []))) = true := by decide +kernel
theorem late_false_13 : okT (callS Tryz.prog XX TT HH 100000 4 [.bool false, .int .i64 (.ofNat 13)] (initH (lG ++ []))) = true := by decide +kernel
theorem late_false_15 : okT (callS Tryz.prog XX TT HH 100000 4 [.bool false, .int .i64 (.ofNat 15)] (initH (lG ++ []))) = true := by decide +kernel
theorem late_false_17 : okT (callS Tryz.prog XX TT HH 100000 4 [.bool false, .int .i64 (.ofNat 17)] (initH (lG ++ []))) = true := by decide +kernel
theorem late_false_19 : okT (callS Tryz.prog XX TT HH 100000 4 [.bool false, .int .i64 (.ofNat 19)] (initH (lG ++ []))) = true := by decide +kernel
end Go.Am
