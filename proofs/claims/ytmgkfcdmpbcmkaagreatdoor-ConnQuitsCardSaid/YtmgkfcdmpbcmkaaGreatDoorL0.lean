/- A text of the claim: SL0. -/
import Derived.Test.YtmgkfcdmpbcmkaaGreatDoorAmF
import Derived.Test.YtmgkfcdmpbcmkaaGreatDoorD0
import Derived.KernelRfl
import Derived.Test.YtmgkfcdmpbcmkaaGreatDoorProg
namespace Go.Am
open Go.Proofs
set_option maxRecDepth 1000000
set_option linter.unusedVariables false
def H3 : List Hint := [.dup, .dup, .keep [4,8,7,9], .dup, .keep [10], .plan [0,1,3,7,0,0,0,0,192,496,0,2047,0,8191] [(0,[]), (0,[]), (0,[]), (1,[]), (0,[]), (0,[]), (0,[]), (0,[]), (0,[]), (1,[]), (0,[]), (3,[]), (0,[]), (0,[])], .dup, .keep [4,7], .dup, .dup]
theorem L3 (C : CallOp) (Lp : LoopOp) (a0 a1 : AV) : evalFnA Tryz.prog C Lp Tryz.f3 H3 [a0, a1] = F3 C Lp a0 a1 := by kernel_rfl
def H4 : List Hint := [.dup, .dup, .keep [7,8], .keep [4,9], .dup, .keep [], .dup]
theorem L4 (C : CallOp) (Lp : LoopOp) (a0 a1 : AV) : evalFnA Tryz.prog C Lp Tryz.f4 H4 [a0, a1] = F4 C Lp a0 a1 := by kernel_rfl
def H5 : List Hint := [.dup, .dup, .plan [0,1,3,7,15,31,63,0,128,384,896,1920,3968,8064,16256,32767,65535] [(0,[]), (0,[]), (0,[]), (1,[]), (0,[]), (0,[]), (1,[]), (0,[]), (0,[]), (0,[]), (1,[]), (0,[]), (0,[]), (1,[]), (3,[3,6]), (3,[]), (0,[])], .dup, .dup, .plan [0,1,3,7,15,31,63,0,128,384,896,1920,3968,8064,16256,32767,65535] [(0,[]), (0,[]), (0,[]), (1,[]), (0,[]), (0,[]), (1,[]), (0,[]), (0,[]), (0,[]), (1,[]), (0,[]), (0,[]), (1,[]), (3,[3,6]), (3,[]), (0,[])]]
theorem L5 (C : CallOp) (Lp : LoopOp) (a0 : AV) : evalFnA Tryz.prog C Lp Tryz.f5 H5 [a0] = F5 C Lp a0 := by kernel_rfl
def H6 : List Hint := [.dup, .dup, .keep [6,10,9,11], .dup, .plan [0,1,0,7,0,16,48,112,240,0,0,1536,3584,7680,16368,32767,65535] [(0,[]), (1,[]), (0,[]), (0,[]), (0,[]), (0,[]), (0,[]), (1,[]), (2,[1]), (0,[]), (0,[]), (0,[]), (1,[8]), (0,[]), (0,[]), (0,[]), (0,[])], .keep [6,10], .plan [0,1,3,7,0,0,0,0,192,496,0,2047,4095] [(0,[]), (0,[]), (0,[]), (1,[]), (0,[]), (0,[]), (0,[]), (0,[]), (0,[]), (1,[]), (0,[]), (3,[]), (0,[])], .dup, .keep [9], .plan [0,1,3,7,15,31,63,0,0,384,896,1920,4095,8191] [(0,[]), (0,[]), (0,[]), (1,[]), (0,[]), (0,[]), (1,[]), (0,[]), (0,[]), (0,[]), (1,[]), (0,[]), (3,[]), (0,[])], .plan [0,0,0,6,0,0,32,96,224,480,992,2016,0,4096,12288,28672,61440,126976,258048,520192,1048544,2097136,4194303,8388607,16777215,33554431,67108863] [(1,[]), (0,[]), (0,[]), (1,[]), (0,[]), (0,[]), (0,[]), (0,[]), (1,[]), (0,[]), (0,[]), (1,[]), (0,[]), (0,[]), (0,[]), (1,[]), (0,[]), (0,[]), (1,[]), (3,[0,3,8,11]), (3,[0,3]), (3,[0,3]), (3,[]), (0,[]), (3,[]), (0,[]), (0,[])]]
theorem L6 (C : CallOp) (Lp : LoopOp) (a0 a1 a2 : AV) : evalFnA Tryz.prog C Lp Tryz.f6 H6 [a0, a1, a2] = F6 C Lp a0 a1 a2 := by kernel_rfl
def H7 : List Hint := [.dup, .dup, .keep [8,9], .dup, .dup, .keep [4,10], .dup, .dup, .plan [0,1,3,7,0,16,48,112,240,496,1008,2032,0,0,12288,32752,0,131071] [(0,[]), (0,[]), (0,[]), (1,[]), (0,[]), (0,[]), (0,[]), (1,[]), (0,[]), (0,[]), (1,[]), (2,[3]), (0,[]), (0,[]), (0,[]), (0,[]), (0,[]), (3,[])]]
theorem L7 (C : CallOp) (Lp : LoopOp) (a0 a1 : AV) : evalFnA Tryz.prog C Lp Tryz.f7 H7 [a0, a1] = F7 C Lp a0 a1 := by kernel_rfl
def H8 : List Hint := [.dup, .dup, .plan [0,1,3,7,0,0,48,127] [(0,[]), (0,[]), (0,[]), (1,[]), (0,[]), (0,[]), (1,[]), (3,[])], .dup, .plan [0,1,3,7,0,0,48,127] [(0,[]), (0,[]), (0,[]), (1,[]), (0,[]), (0,[]), (1,[]), (3,[])], .keep [], .plan [0,1,3,7,15,31,63,0,128,384,896,1920,3968,8064,16256,32767,65535,131071] [(0,[]), (0,[]), (0,[]), (1,[]), (0,[]), (0,[]), (1,[]), (0,[]), (0,[]), (0,[]), (1,[]), (0,[]), (0,[]), (1,[]), (3,[3,6]), (3,[]), (1,[]), (0,[])], .keep [11,12], .dup, .dup, .plan [0,1,3,7,0,16,48,112,240,496,1008,2032,4095] [(0,[]), (0,[]), (0,[]), (1,[]), (0,[]), (0,[]), (0,[]), (1,[]), (0,[]), (0,[]), (1,[]), (3,[3]), (3,[])], .dup]
theorem L8 (C : CallOp) (Lp : LoopOp) (a0 a1 : AV) : evalFnA Tryz.prog C Lp Tryz.f8 H8 [a0, a1] = F8 C Lp a0 a1 := by kernel_rfl
def H9 : List Hint := [.dup, .dup, .keep [7,8], .dup, .plan [0,1,3,7,0,0,32,112,255] [(0,[]), (0,[]), (0,[]), (1,[]), (0,[]), (0,[]), (1,[]), (3,[3]), (3,[])], .keep [4,9,10], .dup, .dup]
theorem L9 (C : CallOp) (Lp : LoopOp) (a0 a1 : AV) : evalFnA Tryz.prog C Lp Tryz.f9 H9 [a0, a1] = F9 C Lp a0 a1 := by kernel_rfl
def H10 : List Hint := [.dup, .dup, .dup, .keep [6,9], .dup, .dup]
theorem L10 (C : CallOp) (Lp : LoopOp) (a0 a1 a2 : AV) : evalFnA Tryz.prog C Lp Tryz.f10 H10 [a0, a1, a2] = F10 C Lp a0 a1 a2 := by kernel_rfl
def H11 : List Hint := [.dup]
theorem L11 (C : CallOp) (Lp : LoopOp) (a0 a1 : AV) : evalFnA Tryz.prog C Lp Tryz.f11 H11 [a0, a1] = F11 C Lp a0 a1 := by kernel_rfl
def H12 : List Hint := [.dup]
theorem L12 (C : CallOp) (Lp : LoopOp) : evalFnA Tryz.prog C Lp Tryz.f12 H12 [] = F12 C Lp := by kernel_rfl
def H13 : List Hint := [.dup, .dup, .plan [0,0,3,7,0,0,48,112,240,496,1008,2032,4080,8176,16368,32752,65520,131056,2047,524287] [(0,[]), (0,[]), (0,[]), (0,[]), (0,[]), (0,[]), (0,[]), (0,[]), (0,[]), (0,[]), (0,[]), (0,[]), (0,[]), (0,[]), (1,[]), (0,[]), (0,[]), (0,[]), (0,[]), (0,[])]]
theorem L13 (C : CallOp) (Lp : LoopOp) (a0 a1 : AV) : evalFnA Tryz.prog C Lp Tryz.f13 H13 [a0, a1] = F13 C Lp a0 a1 := by kernel_rfl
def H14 : List Hint := []
theorem L14 (C : CallOp) (Lp : LoopOp) : evalFnA Tryz.prog C Lp Tryz.f14 H14 [] = F14 C Lp := by kernel_rfl
def H15 : List Hint := [.dup, .dup]
theorem L15 (C : CallOp) (Lp : LoopOp) (a0 a1 a2 : AV) : evalFnA Tryz.prog C Lp Tryz.f15 H15 [a0, a1, a2] = F15 C Lp a0 a1 a2 := by kernel_rfl
def H16 : List Hint := [.dup]
theorem L16 (C : CallOp) (Lp : LoopOp) (a0 : AV) : evalFnA Tryz.prog C Lp Tryz.f16 H16 [a0] = F16 C Lp a0 := by kernel_rfl
def H17 : List Hint := []
theorem L17 (C : CallOp) (Lp : LoopOp) (a0 a1 : AV) : evalFnA Tryz.prog C Lp Tryz.f17 H17 [a0, a1] = F17 C Lp a0 a1 := by kernel_rfl
def H18 : List Hint := [.dup]
theorem L18 (C : CallOp) (Lp : LoopOp) (a0 a1 a2 : AV) : evalFnA Tryz.prog C Lp Tryz.f18 H18 [a0, a1, a2] = F18 C Lp a0 a1 a2 := by kernel_rfl
def H19 : List Hint := []
theorem L19 (C : CallOp) (Lp : LoopOp) : evalFnA Tryz.prog C Lp Tryz.f19 H19 [] = F19 C Lp := by kernel_rfl
def H21 : List Hint := [.dup, .keep [4,5], .dup, .plan [0,0,3,7,0,0,48,112,255] [(0,[]), (0,[]), (0,[]), (1,[]), (0,[]), (0,[]), (0,[]), (1,[]), (0,[])], .dup]
theorem L21 (C : CallOp) (Lp : LoopOp) (a0 a1 : AV) : evalFnA Tryz.prog C Lp Tryz.f21 H21 [a0, a1] = F21 C Lp a0 a1 := by kernel_rfl
def H23 : List Hint := [.dup, .dup, .dup, .plan [0,0,2,6,14,0,32,96,224,480,1022,2047,4095,8191,16383,32767,65535,8191,139263,401407,925695,1974271,4194303,8388607] [(0,[]), (1,[]), (0,[]), (0,[]), (1,[]), (1,[]), (0,[]), (0,[]), (0,[]), (1,[]), (0,[]), (0,[]), (0,[]), (1,[]), (0,[]), (0,[]), (1,[]), (1,[]), (0,[]), (0,[]), (0,[]), (1,[]), (0,[]), (0,[])], .dup, .plan [0,0,0,5,13,29,63,127,255] [(1,[]), (1,[]), (0,[]), (0,[]), (0,[]), (3,[1]), (0,[]), (0,[]), (3,[])]]
theorem L23 (C : CallOp) (Lp : LoopOp) (a0 a1 : AV) : evalFnA Tryz.prog C Lp Tryz.f23 H23 [a0, a1] = F23 C Lp a0 a1 := by kernel_rfl
def H24 : List Hint := [.dup, .plan [0,1,3,7,0,16,48,112,240,0,512,1536,3584,7680,0,16384,49152,114688,245760,0,524288,1572864,3670016,7864320,0,16777216,50331648,117440512,251658240,536870896,0,1073741824,3221225472,7516192768,17179869168,34359738352,68719476735,137438953471] [(0,[]), (0,[]), (0,[]), (1,[]), (0,[]), (0,[]), (0,[]), (0,[]), (1,[]), (0,[]), (0,[]), (0,[]), (0,[]), (1,[]), (0,[]), (0,[]), (0,[]), (0,[]), (1,[]), (0,[]), (0,[]), (0,[]), (0,[]), (1,[]), (0,[]), (0,[]), (0,[]), (0,[]), (1,[]), (0,[]), (0,[]), (0,[]), (0,[]), (1,[]), (0,[]), (1,[]), (0,[]), (0,[])], .keep [4], .plan [0,0,2,6,14,0,32,96,224,480,1022,2047,4095] [(0,[]), (0,[]), (0,[]), (0,[]), (1,[]), (0,[]), (0,[]), (0,[]), (0,[]), (1,[]), (0,[]), (0,[]), (0,[])]]
theorem L24 (C : CallOp) (Lp : LoopOp) (a0 : AV) : evalFnA Tryz.prog C Lp Tryz.f24 H24 [a0] = F24 C Lp a0 := by kernel_rfl
def H25 : List Hint := [.dup, .plan [0,1,3,7,0,16,48,112,15,511] [(0,[]), (0,[]), (0,[]), (1,[]), (0,[]), (0,[]), (0,[]), (1,[]), (0,[]), (0,[])]]
theorem L25 (C : CallOp) (Lp : LoopOp) (a0 : AV) : evalFnA Tryz.prog C Lp Tryz.f25 H25 [a0] = F25 C Lp a0 := by kernel_rfl
def H27 : List Hint := [.dup, .plan [0,1,3,7,0,16,48,112,0,256,768,1792,15,4351,16383] [(0,[]), (0,[]), (0,[]), (1,[]), (0,[]), (0,[]), (0,[]), (1,[]), (0,[]), (0,[]), (0,[]), (1,[]), (0,[]), (0,[]), (0,[])]]
theorem L27 (C : CallOp) (Lp : LoopOp) (a0 : AV) : evalFnA Tryz.prog C Lp Tryz.f27 H27 [a0] = F27 C Lp a0 := by kernel_rfl
def H28 : List Hint := [.dup, .dup]
theorem L28 (C : CallOp) (Lp : LoopOp) (a0 : AV) : evalFnA Tryz.prog C Lp Tryz.f28 H28 [a0] = F28 C Lp a0 := by kernel_rfl
def H30 : List Hint := [.dup, .plan [0,1,3,7,15,31,63,127,255,511,1023,2047,4095,8191,16383,32767,65535,131071,262143,524287,1048575,2097151,4194303,8388607,262143,17039359,50593791,117702655,251920383,536870911,1073741823,2147483647,4294967295,8589934591] [(0,[]), (0,[]), (0,[]), (1,[]), (0,[]), (0,[]), (0,[]), (0,[]), (0,[]), (1,[]), (0,[]), (0,[]), (0,[]), (0,[]), (1,[]), (3,[]), (0,[]), (0,[]), (0,[]), (0,[]), (0,[]), (1,[]), (2,[]), (1,[]), (0,[]), (0,[]), (0,[]), (0,[]), (1,[22]), (0,[]), (0,[]), (0,[]), (0,[]), (0,[])]]
theorem L30 (C : CallOp) (Lp : LoopOp) (a0 : AV) : evalFnA Tryz.prog C Lp Tryz.f30 H30 [a0] = F30 C Lp a0 := by kernel_rfl
def H31 : List Hint := [.dup, .keep [3,13], .dup]
theorem L31 (C : CallOp) (Lp : LoopOp) (a0 : AV) : evalFnA Tryz.prog C Lp Tryz.f31 H31 [a0] = F31 C Lp a0 := by kernel_rfl
def H32 : List Hint := [.dup]
theorem L32 (C : CallOp) (Lp : LoopOp) (a0 a1 : AV) : evalFnA Tryz.prog C Lp Tryz.f32 H32 [a0, a1] = F32 C Lp a0 a1 := by kernel_rfl
def H33 : List Hint := []
theorem L33 (C : CallOp) (Lp : LoopOp) (a0 : AV) : evalFnA Tryz.prog C Lp Tryz.f33 H33 [a0] = F33 C Lp a0 := by kernel_rfl
def H34 : List Hint := [.dup]
theorem L34 (C : CallOp) (Lp : LoopOp) (a0 a1 : AV) : evalFnA Tryz.prog C Lp Tryz.f34 H34 [a0, a1] = F34 C Lp a0 a1 := by kernel_rfl
def H38 : List Hint := [.dup]
theorem L38 (C : CallOp) (Lp : LoopOp) (a0 : AV) : evalFnA Tryz.prog C Lp Tryz.f38 H38 [a0] = F38 C Lp a0 := by kernel_rfl
def H39 : List Hint := [.dup]
theorem L39 (C : CallOp) (Lp : LoopOp) (a0 a1 a2 : AV) : evalFnA Tryz.prog C Lp Tryz.f39 H39 [a0, a1, a2] = F39 C Lp a0 a1 a2 := by kernel_rfl
def H40 : List Hint := [.dup, .plan [0,0,0,0,1,0,0,0,255,511,1023,2047] [(2,[]), (1,[0]), (0,[]), (0,[]), (2,[1]), (0,[]), (0,[]), (0,[]), (0,[]), (0,[]), (0,[]), (0,[])]]
theorem L40 (C : CallOp) (Lp : LoopOp) (a0 a1 a2 a3 : AV) : evalFnA Tryz.prog C Lp Tryz.f40 H40 [a0, a1, a2, a3] = F40 C Lp a0 a1 a2 a3 := by kernel_rfl
def H41 : List Hint := [.dup, .keep [2,3,17], .dup, .dup, .keep [2,3,50], .dup, .plan [0,1,3,7,0,16,0,64,0,511,1023] [(0,[]), (0,[]), (0,[]), (1,[]), (0,[]), (1,[]), (0,[]), (0,[]), (0,[]), (3,[]), (0,[])], .dup, .keep [2,3,70], .dup, .dup]
theorem L41 (C : CallOp) (Lp : LoopOp) (a0 : AV) : evalFnA Tryz.prog C Lp Tryz.f41 H41 [a0] = F41 C Lp a0 := by kernel_rfl
def H42 : List Hint := [.dup]
theorem L42 (C : CallOp) (Lp : LoopOp) (a0 : AV) : evalFnA Tryz.prog C Lp Tryz.f42 H42 [a0] = F42 C Lp a0 := by kernel_rfl
def H43 : List Hint := [.dup, .keep [2,3,4], .dup, .plan [0,1,3,7,15,31,63,127,255,511,1023,2047,4095,8191,16383,32767,65535,131071,262143,524287,1048575,2097151,4194303,8388607,16777215,4194303,37748735,134217727,268435455,536870911,1073741823,2147483647,4294967295,8589934591,17179869183] [(0,[]), (1,[]), (3,[]), (0,[]), (0,[]), (0,[]), (1,[]), (0,[]), (0,[]), (0,[]), (0,[]), (1,[]), (1,[]), (0,[]), (0,[]), (0,[]), (0,[]), (1,[]), (3,[]), (0,[]), (0,[]), (0,[]), (0,[]), (1,[]), (2,[]), (0,[]), (1,[24]), (0,[]), (0,[]), (0,[]), (0,[]), (1,[]), (1,[]), (0,[]), (0,[])], .dup, .keep [2,3,7], .dup, .keep [2,3,8], .dup, .plan [0,1,3,7,15,0,63,127,255,0,0,1536,3584,7680,16383] [(0,[]), (0,[]), (0,[]), (0,[]), (1,[]), (0,[]), (0,[]), (0,[]), (1,[]), (0,[]), (0,[]), (0,[]), (0,[]), (1,[]), (0,[])], .dup, .plan [0,1,3,0,0,24,56,120,0,256,0,2047] [(0,[]), (0,[]), (0,[]), (0,[]), (0,[]), (0,[]), (0,[]), (1,[]), (0,[]), (0,[]), (0,[]), (3,[])]]
theorem L43 (C : CallOp) (Lp : LoopOp) (a0 : AV) : evalFnA Tryz.prog C Lp Tryz.f43 H43 [a0] = F43 C Lp a0 := by kernel_rfl
def H44 : List Hint := [.dup]
theorem L44 (C : CallOp) (Lp : LoopOp) (a0 : AV) : evalFnA Tryz.prog C Lp Tryz.f44 H44 [a0] = F44 C Lp a0 := by kernel_rfl
def H45 : List Hint := [.dup]
theorem L45 (C : CallOp) (Lp : LoopOp) (a0 a1 a2 a3 : AV) : evalFnA Tryz.prog C Lp Tryz.f45 H45 [a0, a1, a2, a3] = F45 C Lp a0 a1 a2 a3 := by kernel_rfl
def H46 : List Hint := [.plan [0,1,3,7,0,16,48,112,15,511] [(0,[]), (0,[]), (0,[]), (1,[]), (0,[]), (0,[]), (0,[]), (1,[]), (0,[]), (0,[])], .dup]
theorem L46 (C : CallOp) (Lp : LoopOp) (a0 a1 a2 : AV) : evalFnA Tryz.prog C Lp Tryz.f46 H46 [a0, a1, a2] = F46 C Lp a0 a1 a2 := by kernel_rfl
def H47 : List Hint := [.keep [], .plan [0,1,3,7,0,0,48,112,255,511] [(1,[]), (0,[]), (0,[]), (1,[]), (1,[]), (1,[]), (1,[]), (0,[]), (3,[]), (0,[])], .keep [], .dup]
theorem L47 (C : CallOp) (Lp : LoopOp) (a0 a1 a2 : AV) : evalFnA Tryz.prog C Lp Tryz.f47 H47 [a0, a1, a2] = F47 C Lp a0 a1 a2 := by kernel_rfl
def H48 : List Hint := [.keep [5,12], .dup, .keep [25], .dup, .plan [0,1,3,7,0,0,32,96,224,496,0,2047,4095] [(0,[]), (0,[]), (0,[]), (1,[]), (0,[]), (0,[]), (0,[]), (0,[]), (1,[]), (3,[3]), (0,[]), (0,[]), (3,[])]]
theorem L48 (C : CallOp) (Lp : LoopOp) (a0 a1 : AV) : evalFnA Tryz.prog C Lp Tryz.f48 H48 [a0, a1] = F48 C Lp a0 a1 := by kernel_rfl
def H49 : List Hint := [.keep [], .dup, .dup]
theorem L49 (C : CallOp) (Lp : LoopOp) (a0 : AV) : evalFnA Tryz.prog C Lp Tryz.f49 H49 [a0] = F49 C Lp a0 := by kernel_rfl
def H50 : List Hint := [.dup]
theorem L50 (C : CallOp) (Lp : LoopOp) (a0 : AV) : evalFnA Tryz.prog C Lp Tryz.f50 H50 [a0] = F50 C Lp a0 := by kernel_rfl
def H51 : List Hint := [.dup, .plan [0,1,3,7,0,0,32,96,224,480,1008,2032,4095,8191] [(0,[]), (0,[]), (0,[]), (1,[]), (0,[]), (0,[]), (0,[]), (0,[]), (1,[]), (1,[]), (0,[]), (0,[]), (1,[]), (0,[])]]
theorem L51 (C : CallOp) (Lp : LoopOp) (a0 a1 : AV) : evalFnA Tryz.prog C Lp Tryz.f51 H51 [a0, a1] = F51 C Lp a0 a1 := by kernel_rfl
def H52 : List Hint := [.plan [0,1,3,7,0,31,63,0] [(1,[]), (0,[]), (0,[]), (1,[]), (1,[]), (3,[]), (1,[]), (0,[])], .keep [11], .dup, .keep []]
theorem L52 (C : CallOp) (Lp : LoopOp) (a0 a1 : AV) : evalFnA Tryz.prog C Lp Tryz.f52 H52 [a0, a1] = F52 C Lp a0 a1 := by kernel_rfl
def H53 : List Hint := [.dup, .keep [1,5], .dup, .keep []]
theorem L53 (C : CallOp) (Lp : LoopOp) (a0 a1 : AV) : evalFnA Tryz.prog C Lp Tryz.f53 H53 [a0, a1] = F53 C Lp a0 a1 := by kernel_rfl
def H59 : List Hint := [.dup, .plan [0,1,3,7,15,0,32,96,224,511,1023] [(0,[]), (0,[]), (0,[]), (1,[]), (1,[]), (0,[]), (0,[]), (0,[]), (1,[]), (0,[]), (0,[])]]
theorem L59 (C : CallOp) (Lp : LoopOp) (a0 : AV) : evalFnA Tryz.prog C Lp Tryz.f59 H59 [a0] = F59 C Lp a0 := by kernel_rfl
def H61 : List Hint := []
theorem L61 (C : CallOp) (Lp : LoopOp) (a0 : AV) : evalFnA Tryz.prog C Lp Tryz.f61 H61 [a0] = F61 C Lp a0 := by kernel_rfl
def H62 : List Hint := []
theorem L62 (C : CallOp) (Lp : LoopOp) (a0 : AV) : evalFnA Tryz.prog C Lp Tryz.f62 H62 [a0] = F62 C Lp a0 := by kernel_rfl
def H79 : List Hint := [.plan [0,0,2,7] [(1,[]), (1,[]), (3,[0]), (3,[])]]
theorem L79 (C : CallOp) (Lp : LoopOp) (a0 a1 : AV) : evalFnA Tryz.prog C Lp Tryz.f79 H79 [a0, a1] = F79 C Lp a0 a1 := by kernel_rfl
def H80 : List Hint := [.dup]
theorem L80 (C : CallOp) (Lp : LoopOp) (a0 a1 a2 a3 a4 : AV) : evalFnA Tryz.prog C Lp Tryz.f80 H80 [a0, a1, a2, a3, a4] = F80 C Lp a0 a1 a2 a3 a4 := by kernel_rfl
def H81 : List Hint := [.keep []]
theorem L81 (C : CallOp) (Lp : LoopOp) (a0 a1 : AV) : evalFnA Tryz.prog C Lp Tryz.f81 H81 [a0, a1] = F81 C Lp a0 a1 := by kernel_rfl
def H82 : List Hint := [.dup]
theorem L82 (C : CallOp) (Lp : LoopOp) (a0 : AV) : evalFnA Tryz.prog C Lp Tryz.f82 H82 [a0] = F82 C Lp a0 := by kernel_rfl
def H83 : List Hint := []
theorem L83 (C : CallOp) (Lp : LoopOp) : evalFnA Tryz.prog C Lp Tryz.f83 H83 [] = F83 C Lp := by kernel_rfl
def H84 : List Hint := []
theorem L84 (C : CallOp) (Lp : LoopOp) : evalFnA Tryz.prog C Lp Tryz.f84 H84 [] = F84 C Lp := by kernel_rfl
def H85 : List Hint := [.plan [0,1,3,3,11,31,63,127,255,511,1023,2047,4095,8191,16383,32767,65535,131071,262143,524287,1048575,2097151,4194303,8388607,16777215,33554431,67108863,134217727,268435455,536870911,1073741823,268435455,2415919103,8589934591,17179869183,34359738367,68719476735,137438953471,274877906943,549755813887,1099511627775,2199023255551,4398046511103,8796093022207,17592186044415,35184372088831,70368744177663,140737488355327] [(0,[]), (0,[]), (0,[]), (0,[]), (1,[]), (0,[]), (0,[]), (0,[]), (0,[]), (1,[]), (0,[]), (0,[]), (0,[]), (0,[]), (3,[]), (0,[]), (0,[]), (0,[]), (0,[]), (1,[]), (0,[]), (0,[]), (0,[]), (0,[]), (1,[]), (3,[]), (0,[]), (0,[]), (0,[]), (1,[]), (2,[]), (0,[]), (1,[30]), (0,[]), (0,[]), (0,[]), (0,[]), (1,[]), (1,[]), (0,[]), (0,[]), (0,[]), (0,[]), (1,[]), (1,[]), (0,[]), (0,[]), (0,[])]]
theorem L85 (C : CallOp) (Lp : LoopOp) (a0 : AV) : evalFnA Tryz.prog C Lp Tryz.f85 H85 [a0] = F85 C Lp a0 := by kernel_rfl
def H86 : List Hint := []
theorem L86 (C : CallOp) (Lp : LoopOp) : evalFnA Tryz.prog C Lp Tryz.f86 H86 [] = F86 C Lp := by kernel_rfl
def H87 : List Hint := [.dup]
theorem L87 (C : CallOp) (Lp : LoopOp) (a0 : AV) : evalFnA Tryz.prog C Lp Tryz.f87 H87 [a0] = F87 C Lp a0 := by kernel_rfl
def H88 : List Hint := [.dup, .keep [9,10], .dup, .dup, .keep [8,70], .dup, .dup, .plan [0,0,0,0,12,0,0,64,224,480,1020,2047] [(0,[]), (0,[]), (0,[]), (0,[]), (1,[]), (0,[]), (0,[]), (3,[4]), (0,[]), (0,[]), (3,[]), (3,[])]]
theorem L88 (C : CallOp) (Lp : LoopOp) (a0 a1 a2 a3 : AV) : evalFnA Tryz.prog C Lp Tryz.f88 H88 [a0, a1, a2, a3] = F88 C Lp a0 a1 a2 a3 := by kernel_rfl
def H89 : List Hint := [.dup]
theorem L89 (C : CallOp) (Lp : LoopOp) (a0 : AV) : evalFnA Tryz.prog C Lp Tryz.f89 H89 [a0] = F89 C Lp a0 := by kernel_rfl
def H90 : List Hint := [.keep [2,3], .dup, .dup]
theorem L90 (C : CallOp) (Lp : LoopOp) (a0 : AV) : evalFnA Tryz.prog C Lp Tryz.f90 H90 [a0] = F90 C Lp a0 := by kernel_rfl
def H91 : List Hint := [.keep [0], .dup, .keep [0], .dup]
theorem L91 (C : CallOp) (Lp : LoopOp) (a0 : AV) : evalFnA Tryz.prog C Lp Tryz.f91 H91 [a0] = F91 C Lp a0 := by kernel_rfl
def H92 : List Hint := [.dup, .keep [8,9], .dup, .dup, .dup, .keep [8,10], .dup, .dup, .dup, .keep [8,11], .dup, .plan [0,1,3,7,0,31,63,127,0,0,768,1792,4095] [(0,[]), (0,[]), (0,[]), (1,[]), (0,[]), (0,[]), (0,[]), (1,[]), (0,[]), (0,[]), (0,[]), (1,[]), (3,[])], .dup, .plan [0,0,2,6,14,0,0,0,0,384,992,2016,4094,8191,16383,32767] [(0,[]), (0,[]), (0,[]), (0,[]), (1,[]), (0,[]), (0,[]), (0,[]), (0,[]), (3,[4]), (0,[]), (0,[]), (3,[]), (0,[]), (0,[]), (3,[])]]
theorem L92 (C : CallOp) (Lp : LoopOp) (a0 a1 a2 a3 : AV) : evalFnA Tryz.prog C Lp Tryz.f92 H92 [a0, a1, a2, a3] = F92 C Lp a0 a1 a2 a3 := by kernel_rfl
def H93 : List Hint := []
theorem L93 (C : CallOp) (Lp : LoopOp) (a0 : AV) : evalFnA Tryz.prog C Lp Tryz.f93 H93 [a0] = F93 C Lp a0 := by kernel_rfl
def H94 : List Hint := [.dup, .dup, .dup]
theorem L94 (C : CallOp) (Lp : LoopOp) (a0 : AV) : evalFnA Tryz.prog C Lp Tryz.f94 H94 [a0] = F94 C Lp a0 := by kernel_rfl
def H95 : List Hint := [.plan [0,1,3,7,0,31,0,64,192,448,960,2047,4095] [(0,[]), (0,[]), (0,[]), (1,[]), (0,[]), (0,[]), (0,[]), (0,[]), (0,[]), (1,[]), (1,[]), (0,[]), (0,[])]]
theorem L95 (C : CallOp) (Lp : LoopOp) (a0 a1 : AV) : evalFnA Tryz.prog C Lp Tryz.f95 H95 [a0, a1] = F95 C Lp a0 a1 := by kernel_rfl
def H96 : List Hint := [.keep [2], .plan [0,1,3,7,0,16,48,112,0,256,768,1792,0,4096,12288,28672,0,65536,196608,458752,983040,2093056,4190208,8388352,16777200,33554431,67108863,134217727,268435455] [(0,[]), (0,[]), (0,[]), (1,[]), (0,[]), (0,[]), (0,[]), (1,[]), (0,[]), (0,[]), (0,[]), (1,[]), (0,[]), (0,[]), (0,[]), (1,[]), (0,[]), (0,[]), (0,[]), (1,[]), (3,[3,7,11,15]), (3,[3,7,11]), (0,[]), (3,[3,7]), (3,[3]), (0,[]), (0,[]), (0,[]), (3,[])], .dup, .dup, .plan [0,0,2,6,14,0,62,0,128,384,0,1024,0,4096,12414,28798,61566,127102,258174,520318,1048575] [(0,[]), (0,[]), (0,[]), (0,[]), (1,[]), (1,[]), (2,[]), (0,[]), (1,[6]), (0,[]), (0,[]), (1,[6]), (0,[]), (1,[6]), (0,[]), (0,[]), (0,[]), (0,[]), (1,[]), (0,[]), (3,[])], .dup, .dup, .plan [0,1,3,7,0,16,48,112,0,256,1008,2047] [(0,[]), (0,[]), (0,[]), (1,[]), (0,[]), (0,[]), (0,[]), (1,[]), (3,[3,7]), (0,[]), (3,[3]), (3,[])]]
theorem L96 (C : CallOp) (Lp : LoopOp) (a0 : AV) : evalFnA Tryz.prog C Lp Tryz.f96 H96 [a0] = F96 C Lp a0 := by kernel_rfl
def H97 : List Hint := [.dup]
theorem L97 (C : CallOp) (Lp : LoopOp) (a0 : AV) : evalFnA Tryz.prog C Lp Tryz.f97 H97 [a0] = F97 C Lp a0 := by kernel_rfl
def H98 : List Hint := [.dup]
theorem L98 (C : CallOp) (Lp : LoopOp) (a0 : AV) : evalFnA Tryz.prog C Lp Tryz.f98 H98 [a0] = F98 C Lp a0 := by kernel_rfl
def H110 : List Hint := [.dup, .plan [0,0,2,6,0,16,62,126,255] [(0,[]), (0,[]), (1,[]), (2,[]), (0,[]), (1,[3]), (3,[]), (0,[]), (3,[])], .keep [31], .dup, .keep [], .dup, .keep [], .dup, .keep [], .dup, .plan [0,0,2,6,15,31] [(1,[]), (1,[]), (3,[0]), (3,[0]), (3,[]), (3,[])], .dup]
theorem L110 (C : CallOp) (Lp : LoopOp) (a0 a1 a2 a3 : AV) : evalFnA Tryz.prog C Lp Tryz.f110 H110 [a0, a1, a2, a3] = F110 C Lp a0 a1 a2 a3 := by kernel_rfl
def H111 : List Hint := [.dup, .keep [17], .dup, .plan [0,0,2,6,14,0,32,96,224,0,512,1536,3584,7680,0,32256,65504,131040,262142,524287,1048575,2097151] [(0,[]), (0,[]), (0,[]), (0,[]), (1,[]), (0,[]), (0,[]), (0,[]), (1,[]), (0,[]), (0,[]), (0,[]), (1,[]), (1,[]), (0,[]), (0,[]), (0,[]), (0,[]), (3,[]), (0,[]), (0,[]), (3,[])]]
theorem L111 (C : CallOp) (Lp : LoopOp) (a0 a1 : AV) : evalFnA Tryz.prog C Lp Tryz.f111 H111 [a0, a1] = F111 C Lp a0 a1 := by kernel_rfl
def H112 : List Hint := []
theorem L112 (C : CallOp) (Lp : LoopOp) (a0 : AV) : evalFnA Tryz.prog C Lp Tryz.f112 H112 [a0] = F112 C Lp a0 := by kernel_rfl
def H113 : List Hint := []
theorem L113 (C : CallOp) (Lp : LoopOp) (a0 : AV) : evalFnA Tryz.prog C Lp Tryz.f113 H113 [a0] = F113 C Lp a0 := by kernel_rfl
def H114 : List Hint := []
theorem L114 (C : CallOp) (Lp : LoopOp) (a0 : AV) : evalFnA Tryz.prog C Lp Tryz.f114 H114 [a0] = F114 C Lp a0 := by kernel_rfl
def H115 : List Hint := [.dup, .dup, .dup, .dup, .dup, .dup, .dup, .dup, .dup, .dup, .dup, .dup, .dup, .dup, .dup]
theorem L115 (C : CallOp) (Lp : LoopOp) (a0 : AV) : evalFnA Tryz.prog C Lp Tryz.f115 H115 [a0] = F115 C Lp a0 := by kernel_rfl
end Go.Am
