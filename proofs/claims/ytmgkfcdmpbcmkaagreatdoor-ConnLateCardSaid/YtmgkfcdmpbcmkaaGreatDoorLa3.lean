/- A text of the claim: SLa3. -/
import Derived.Test.YtmgkfcdmpbcmkaaGreatDoorG
namespace Go.Am
open Go.Proofs
set_option maxRecDepth 1000000
theorem late_false_2 : okT (callS Tryz.prog XX TT HH 100000 4 [.bool false, .int .i64 (.ofNat 2)] (initH (lG ++ []))) = true := by decide +kernel
theorem late_false_4 : okT (callS Tryz.prog XX TT HH 100000 4 [.bool false, .int .i64 (.ofNat 4)] (initH (lG ++ []))) = true := by decide +kernel
theorem late_false_6 : okT (callS Tryz.prog XX TT HH 100000 4 [.bool false, .int .i64 (.ofNat 6)] (initH (lG ++ []))) = true := by decide +kernel
theorem late_false_8 : okT (callS Tryz.prog XX TT HH 100000 4 [.bool false, .int .i64 (.ofNat 8)] (initH (lG ++ []))) = true := by decide +kernel
theorem late_false_10 : okT (callS Tryz.prog XX TT HH 100000 4 [.bool false, .int .i64 (.ofNat 10)] (initH (lG ++ []))) = true := by decide +kernel
theorem late_false_12 : okT (callS Tryz.prog XX TT HH 100000 4 [.bool false, .int .i64 (.ofNat 12)] (initH (lG ++ []))) = true := by decide +kernel
theorem late_false_14 : okT (callS Tryz.prog XX TT HH 100000 4 [.bool false, .int .i64 (.ofNat 14)] (initH (lG ++ []))) = true := by decide +kernel
theorem late_false_16 : okT (callS Tryz.prog XX TT HH 100000 4 [.bool false, .int .i64 (.ofNat 16)] (initH (lG ++ []))) = true := by decide +kernel
theorem late_false_18 : okT (callS Tryz.prog XX TT HH 100000 4 [.bool false, .int .i64 (.ofNat 18)] (initH (lG ++ []))) = true := by decide +kernel
end Go.Am
