/- A text of the claim: SLa2. -/
import Derived.Test.YtmgkfcdmpbcmkaaGreatDoorG
namespace Go.Am
open Go.Proofs
set_option maxRecDepth 1000000
theorem late_true_2 : okT (callS Tryz.prog XX TT HH 100000 4 [.bool true, .int .i64 (.ofNat 2)] (initH (lG ++ []))) = true := by decide +kernel
theorem late_true_4 : okT (callS Tryz.prog XX TT HH 100000 4 [.bool true, .int .i64 (.ofNat 4)] (initH (lG ++ []))) = true := by decide +kernel
theorem late_true_6 : okT (callS Tryz.prog XX TT HH 100000 4 [.bool true, .int .i64 (.ofNat 6)] (initH (lG ++ []))) = true := by decide +kernel
theorem late_true_8 : okT (callS Tryz.prog XX TT HH 100000 4 [.bool true, .int .i64 (.ofNat 8)] (initH (lG ++ []))) = true := by decide +kernel
theorem late_true_10 : okT (callS Tryz.prog XX TT HH 100000 4 [.bool true, .int .i64 (.ofNat 10)] (initH (lG ++ []))) = true := by decide +kernel
theorem late_true_12 : okT (callS Tryz.prog XX TT HH 100000 4 [.bool true, .int .i64 (.ofNat 12)] (initH (lG ++ []))) = true := by decide +kernel
theorem late_true_14 : okT (callS Tryz.prog XX TT HH 100000 4 [.bool true, .int .i64 (.ofNat 14)] (initH (lG ++ []))) = true := by decide +kernel
theorem late_true_16 : okT (callS Tryz.prog XX TT HH 100000 4 [.bool true, .int .i64 (.ofNat 16)] (initH (lG ++ []))) = true := by decide +kernel
theorem late_true_18 : okT (callS Tryz.prog XX TT HH 100000 4 [.bool true, .int .i64 (.ofNat 18)] (initH (lG ++ []))) = true := by decide +kernel
end Go.Am
