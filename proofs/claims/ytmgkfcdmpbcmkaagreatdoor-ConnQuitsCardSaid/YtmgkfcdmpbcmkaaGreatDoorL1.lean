/- A text of the claim: SL1. -/
import Derived.Test.YtmgkfcdmpbcmkaaGreatDoorAmF
import Derived.Test.YtmgkfcdmpbcmkaaGreatDoorD1
import Derived.KernelRfl
import Derived.Test.YtmgkfcdmpbcmkaaGreatDoorProg
namespace Go.Am
open Go.Proofs
set_option maxRecDepth 1000000
set_option linter.unusedVariables false
def H116 : List Hint := []
theorem L116 (C : CallOp) (Lp : LoopOp) (a0 : AV) : evalFnA Tryz.prog C Lp Tryz.f116 H116 [a0] = F116 C Lp a0 := by kernel_rfl
def H117 : List Hint := []
theorem L117 (C : CallOp) (Lp : LoopOp) : evalFnA Tryz.prog C Lp Tryz.f117 H117 [] = F117 C Lp := by kernel_rfl
def H118 : List Hint := [.dup, .keep [5,2,3,4,21], .dup, .keep [31], .keep [2,3,4], .dup, .dup, .keep [8,47], .dup, .keep [8]]
theorem L118 (C : CallOp) (Lp : LoopOp) (a0 : AV) : evalFnA Tryz.prog C Lp Tryz.f118 H118 [a0] = F118 C Lp a0 := by kernel_rfl
def H119 : List Hint := []
theorem L119 (C : CallOp) (Lp : LoopOp) (a0 a1 : AV) : evalFnA Tryz.prog C Lp Tryz.f119 H119 [a0, a1] = F119 C Lp a0 a1 := by kernel_rfl
def H120 : List Hint := []
theorem L120 (C : CallOp) (Lp : LoopOp) (a0 : AV) : evalFnA Tryz.prog C Lp Tryz.f120 H120 [a0] = F120 C Lp a0 := by kernel_rfl
def H121 : List Hint := []
theorem L121 (C : CallOp) (Lp : LoopOp) (a0 : AV) : evalFnA Tryz.prog C Lp Tryz.f121 H121 [a0] = F121 C Lp a0 := by kernel_rfl
def H122 : List Hint := []
theorem L122 (C : CallOp) (Lp : LoopOp) (a0 a1 : AV) : evalFnA Tryz.prog C Lp Tryz.f122 H122 [a0, a1] = F122 C Lp a0 a1 := by kernel_rfl
def H123 : List Hint := []
theorem L123 (C : CallOp) (Lp : LoopOp) (a0 a1 : AV) : evalFnA Tryz.prog C Lp Tryz.f123 H123 [a0, a1] = F123 C Lp a0 a1 := by kernel_rfl
def H124 : List Hint := []
theorem L124 (C : CallOp) (Lp : LoopOp) (a0 : AV) : evalFnA Tryz.prog C Lp Tryz.f124 H124 [a0] = F124 C Lp a0 := by kernel_rfl
def H125 : List Hint := []
theorem L125 (C : CallOp) (Lp : LoopOp) (a0 : AV) : evalFnA Tryz.prog C Lp Tryz.f125 H125 [a0] = F125 C Lp a0 := by kernel_rfl
def H127 : List Hint := []
theorem L127 (C : CallOp) (Lp : LoopOp) (a0 a1 : AV) : evalFnA Tryz.prog C Lp Tryz.f127 H127 [a0, a1] = F127 C Lp a0 a1 := by kernel_rfl
def H128 : List Hint := [.dup]
theorem L128 (C : CallOp) (Lp : LoopOp) (a0 : AV) : evalFnA Tryz.prog C Lp Tryz.f128 H128 [a0] = F128 C Lp a0 := by kernel_rfl
def H129 : List Hint := [.dup, .keep [5,7,2,3,4,8], .dup, .dup, .keep [44], .keep [2,3,4], .dup, .dup, .keep [9,10], .dup, .keep [9]]
theorem L129 (C : CallOp) (Lp : LoopOp) (a0 : AV) : evalFnA Tryz.prog C Lp Tryz.f129 H129 [a0] = F129 C Lp a0 := by kernel_rfl
def H130 : List Hint := []
theorem L130 (C : CallOp) (Lp : LoopOp) (a0 : AV) : evalFnA Tryz.prog C Lp Tryz.f130 H130 [a0] = F130 C Lp a0 := by kernel_rfl
def H131 : List Hint := []
theorem L131 (C : CallOp) (Lp : LoopOp) (a0 : AV) : evalFnA Tryz.prog C Lp Tryz.f131 H131 [a0] = F131 C Lp a0 := by kernel_rfl
def H132 : List Hint := [.dup]
theorem L132 (C : CallOp) (Lp : LoopOp) (a0 : AV) : evalFnA Tryz.prog C Lp Tryz.f132 H132 [a0] = F132 C Lp a0 := by kernel_rfl
def H133 : List Hint := [.keep [2,3], .dup, .dup]
theorem L133 (C : CallOp) (Lp : LoopOp) (a0 : AV) : evalFnA Tryz.prog C Lp Tryz.f133 H133 [a0] = F133 C Lp a0 := by kernel_rfl
def H135 : List Hint := []
theorem L135 (C : CallOp) (Lp : LoopOp) (a0 a1 a2 : AV) : evalFnA Tryz.prog C Lp Tryz.f135 H135 [a0, a1, a2] = F135 C Lp a0 a1 a2 := by kernel_rfl
def H136 : List Hint := [.plan [0,1,3,7,15,31,63,127,255,511,1023,2047,4095,8191,16383,32767,65535,131071,262143,524287,16383,1064959,3162111,7356415,15745023,33554431,67108863,134217727,268435455,536870911,1073741823,2147483647,4294967295,8589934591,17179869183,34359738367] [(0,[]), (0,[]), (0,[]), (1,[]), (0,[]), (0,[]), (0,[]), (0,[]), (0,[]), (1,[]), (3,[]), (0,[]), (0,[]), (0,[]), (0,[]), (0,[]), (0,[]), (1,[]), (2,[]), (1,[]), (0,[]), (0,[]), (0,[]), (0,[]), (1,[18]), (0,[]), (0,[]), (0,[]), (0,[]), (0,[]), (0,[]), (1,[]), (3,[]), (0,[]), (0,[]), (0,[])]]
theorem L136 (C : CallOp) (Lp : LoopOp) (a0 : AV) : evalFnA Tryz.prog C Lp Tryz.f136 H136 [a0] = F136 C Lp a0 := by kernel_rfl
def H137 : List Hint := [.keep [], .plan [0,0,0,0,12,0,32,96,224,0,992,509,2557,6653,16383,32767,65535] [(0,[]), (0,[]), (0,[]), (0,[]), (2,[]), (0,[]), (0,[]), (0,[]), (1,[4]), (0,[]), (0,[]), (0,[]), (0,[]), (3,[]), (0,[]), (0,[]), (3,[])]]
theorem L137 (C : CallOp) (Lp : LoopOp) (a0 a1 : AV) : evalFnA Tryz.prog C Lp Tryz.f137 H137 [a0, a1] = F137 C Lp a0 a1 := by kernel_rfl
def H138 : List Hint := [.dup, .keep [5,13], .dup, .keep [7,5], .dup]
theorem L138 (C : CallOp) (Lp : LoopOp) (a0 a1 : AV) : evalFnA Tryz.prog C Lp Tryz.f138 H138 [a0, a1] = F138 C Lp a0 a1 := by kernel_rfl
def H139 : List Hint := [.keep [5,11], .dup, .plan [0,0,2,6,14,0,0,96,254,510,1022,2047,4095] [(0,[]), (0,[]), (0,[]), (0,[]), (1,[]), (0,[]), (0,[]), (3,[4]), (0,[]), (1,[]), (0,[]), (3,[]), (0,[])]]
theorem L139 (C : CallOp) (Lp : LoopOp) (a0 a1 : AV) : evalFnA Tryz.prog C Lp Tryz.f139 H139 [a0, a1] = F139 C Lp a0 a1 := by kernel_rfl
def H140 : List Hint := [.dup, .plan [0,1,3,7,15,31,63,127,0,256,768,1792,0,4096,0,16384,65535,0,262143] [(0,[]), (0,[]), (0,[]), (1,[]), (0,[]), (0,[]), (1,[]), (2,[]), (0,[]), (0,[]), (0,[]), (1,[7]), (0,[]), (1,[7]), (0,[]), (1,[7]), (0,[]), (0,[]), (3,[])]]
theorem L140 (C : CallOp) (Lp : LoopOp) (a0 : AV) : evalFnA Tryz.prog C Lp Tryz.f140 H140 [a0] = F140 C Lp a0 := by kernel_rfl
def H141 : List Hint := [.dup, .dup, .dup, .plan [0,1,3,7,0,16,0,64,192,511,1023,2047,2047,2047,2047,4095,40959,114687,262143] [(0,[]), (0,[]), (0,[]), (1,[]), (0,[]), (1,[]), (0,[]), (0,[]), (1,[]), (3,[]), (0,[]), (0,[]), (0,[]), (0,[]), (0,[]), (0,[]), (0,[]), (0,[]), (0,[])], .dup, .dup, .dup, .dup, .keep [10], .dup, .keep [96], .dup, .dup, .dup, .keep [], .keep [15], .dup]
theorem L141 (C : CallOp) (Lp : LoopOp) (a0 a1 : AV) : evalFnA Tryz.prog C Lp Tryz.f141 H141 [a0, a1] = F141 C Lp a0 a1 := by kernel_rfl
def H143 : List Hint := []
theorem L143 (C : CallOp) (Lp : LoopOp) (a0 : AV) : evalFnA Tryz.prog C Lp Tryz.f143 H143 [a0] = F143 C Lp a0 := by kernel_rfl
def H160 : List Hint := [.dup, .plan [0,0,2,7,15,31,31,63,255] [(2,[]), (0,[]), (1,[0]), (3,[]), (0,[]), (0,[]), (0,[]), (0,[]), (0,[])], .dup, .keep [2,48], .dup, .dup, .keep [2,7,59], .dup, .dup]
theorem L160 (C : CallOp) (Lp : LoopOp) (a0 : AV) : evalFnA Tryz.prog C Lp Tryz.f160 H160 [a0] = F160 C Lp a0 := by kernel_rfl
def H161 : List Hint := [.plan [0,0,2,7,15,31] [(1,[]), (0,[]), (3,[0]), (3,[]), (3,[]), (3,[])]]
theorem L161 (C : CallOp) (Lp : LoopOp) (a0 a1 : AV) : evalFnA Tryz.prog C Lp Tryz.f161 H161 [a0, a1] = F161 C Lp a0 a1 := by kernel_rfl
def H164 : List Hint := [.dup, .dup, .keep [5], .keep [], .keep [5,41], .dup, .keep [], .keep [65], .dup]
theorem L164 (C : CallOp) (Lp : LoopOp) (a0 a1 : AV) : evalFnA Tryz.prog C Lp Tryz.f164 H164 [a0, a1] = F164 C Lp a0 a1 := by kernel_rfl
def H165 : List Hint := []
theorem L165 (C : CallOp) (Lp : LoopOp) (a0 : AV) : evalFnA Tryz.prog C Lp Tryz.f165 H165 [a0] = F165 C Lp a0 := by kernel_rfl
def H166 : List Hint := [.keep [6,11], .dup, .dup]
theorem L166 (C : CallOp) (Lp : LoopOp) (a0 a1 a2 : AV) : evalFnA Tryz.prog C Lp Tryz.f166 H166 [a0, a1, a2] = F166 C Lp a0 a1 a2 := by kernel_rfl
def H167 : List Hint := []
theorem L167 (C : CallOp) (Lp : LoopOp) (a0 : AV) : evalFnA Tryz.prog C Lp Tryz.f167 H167 [a0] = F167 C Lp a0 := by kernel_rfl
def H168 : List Hint := []
theorem L168 (C : CallOp) (Lp : LoopOp) (a0 a1 : AV) : evalFnA Tryz.prog C Lp Tryz.f168 H168 [a0, a1] = F168 C Lp a0 a1 := by kernel_rfl
def H169 : List Hint := []
theorem L169 (C : CallOp) (Lp : LoopOp) (a0 a1 : AV) : evalFnA Tryz.prog C Lp Tryz.f169 H169 [a0, a1] = F169 C Lp a0 a1 := by kernel_rfl
def H170 : List Hint := [.keep [4,8], .dup, .dup]
theorem L170 (C : CallOp) (Lp : LoopOp) (a0 a1 : AV) : evalFnA Tryz.prog C Lp Tryz.f170 H170 [a0, a1] = F170 C Lp a0 a1 := by kernel_rfl
def H171 : List Hint := []
theorem L171 (C : CallOp) (Lp : LoopOp) (a0 : AV) : evalFnA Tryz.prog C Lp Tryz.f171 H171 [a0] = F171 C Lp a0 := by kernel_rfl
def H172 : List Hint := [.dup, .dup, .plan [0,0,2,7,0,16,63,127] [(0,[]), (0,[]), (0,[]), (2,[]), (0,[]), (0,[]), (3,[]), (0,[])], .dup]
theorem L172 (C : CallOp) (Lp : LoopOp) (a0 a1 : AV) : evalFnA Tryz.prog C Lp Tryz.f172 H172 [a0, a1] = F172 C Lp a0 a1 := by kernel_rfl
def H173 : List Hint := [.dup]
theorem L173 (C : CallOp) (Lp : LoopOp) (a0 a1 : AV) : evalFnA Tryz.prog C Lp Tryz.f173 H173 [a0, a1] = F173 C Lp a0 a1 := by kernel_rfl
def H174 : List Hint := [.keep [4,8], .dup, .dup]
theorem L174 (C : CallOp) (Lp : LoopOp) (a0 a1 : AV) : evalFnA Tryz.prog C Lp Tryz.f174 H174 [a0, a1] = F174 C Lp a0 a1 := by kernel_rfl
def H175 : List Hint := []
theorem L175 (C : CallOp) (Lp : LoopOp) (a0 : AV) : evalFnA Tryz.prog C Lp Tryz.f175 H175 [a0] = F175 C Lp a0 := by kernel_rfl
def H176 : List Hint := []
theorem L176 (C : CallOp) (Lp : LoopOp) (a0 : AV) : evalFnA Tryz.prog C Lp Tryz.f176 H176 [a0] = F176 C Lp a0 := by kernel_rfl
def H177 : List Hint := []
theorem L177 (C : CallOp) (Lp : LoopOp) (a0 a1 : AV) : evalFnA Tryz.prog C Lp Tryz.f177 H177 [a0, a1] = F177 C Lp a0 a1 := by kernel_rfl
def H178 : List Hint := [.keep [4,8], .dup, .dup]
theorem L178 (C : CallOp) (Lp : LoopOp) (a0 a1 : AV) : evalFnA Tryz.prog C Lp Tryz.f178 H178 [a0, a1] = F178 C Lp a0 a1 := by kernel_rfl
def H179 : List Hint := []
theorem L179 (C : CallOp) (Lp : LoopOp) (a0 : AV) : evalFnA Tryz.prog C Lp Tryz.f179 H179 [a0] = F179 C Lp a0 := by kernel_rfl
def H180 : List Hint := [.dup, .keep [5], .plan [0,0,2,6,14,0,0,96,254,511,1023,2047] [(0,[]), (0,[]), (0,[]), (0,[]), (1,[]), (0,[]), (0,[]), (1,[]), (3,[]), (0,[]), (0,[]), (3,[])], .dup, .keep []]
theorem L180 (C : CallOp) (Lp : LoopOp) (a0 a1 : AV) : evalFnA Tryz.prog C Lp Tryz.f180 H180 [a0, a1] = F180 C Lp a0 a1 := by kernel_rfl
def H181 : List Hint := [.dup]
theorem L181 (C : CallOp) (Lp : LoopOp) (a0 : AV) : evalFnA Tryz.prog C Lp Tryz.f181 H181 [a0] = F181 C Lp a0 := by kernel_rfl
def H182 : List Hint := [.dup]
theorem L182 (C : CallOp) (Lp : LoopOp) (a0 : AV) : evalFnA Tryz.prog C Lp Tryz.f182 H182 [a0] = F182 C Lp a0 := by kernel_rfl
def H183 : List Hint := [.dup, .plan [0,1,3,7,0,16,48,112,0,256,768,1792,15,4351,16383] [(0,[]), (0,[]), (0,[]), (1,[]), (0,[]), (0,[]), (0,[]), (1,[]), (0,[]), (0,[]), (0,[]), (1,[]), (0,[]), (3,[11]), (0,[])]]
theorem L183 (C : CallOp) (Lp : LoopOp) (a0 : AV) : evalFnA Tryz.prog C Lp Tryz.f183 H183 [a0] = F183 C Lp a0 := by kernel_rfl
def H185 : List Hint := [.dup, .keep [6,11], .dup, .keep [8,44], .dup, .keep [8]]
theorem L185 (C : CallOp) (Lp : LoopOp) (a0 a1 a2 : AV) : evalFnA Tryz.prog C Lp Tryz.f185 H185 [a0, a1, a2] = F185 C Lp a0 a1 a2 := by kernel_rfl
def H187 : List Hint := []
theorem L187 (C : CallOp) (Lp : LoopOp) (a0 a1 : AV) : evalFnA Tryz.prog C Lp Tryz.f187 H187 [a0, a1] = F187 C Lp a0 a1 := by kernel_rfl
def H188 : List Hint := []
theorem L188 (C : CallOp) (Lp : LoopOp) (a0 a1 : AV) : evalFnA Tryz.prog C Lp Tryz.f188 H188 [a0, a1] = F188 C Lp a0 a1 := by kernel_rfl
def H197 : List Hint := [.dup, .keep [4,5,12], .dup, .dup, .dup, .plan [0,0,2,6,14,0,32,126,255,511,1023] [(0,[]), (0,[]), (0,[]), (0,[]), (1,[]), (1,[]), (0,[]), (3,[]), (0,[]), (0,[]), (3,[])]]
theorem L197 (C : CallOp) (Lp : LoopOp) (a0 a1 : AV) : evalFnA Tryz.prog C Lp Tryz.f197 H197 [a0, a1] = F197 C Lp a0 a1 := by kernel_rfl
def H198 : List Hint := []
theorem L198 (C : CallOp) (Lp : LoopOp) (a0 : AV) : evalFnA Tryz.prog C Lp Tryz.f198 H198 [a0] = F198 C Lp a0 := by kernel_rfl
def H201 : List Hint := []
theorem L201 (C : CallOp) (Lp : LoopOp) (a0 a1 : AV) : evalFnA Tryz.prog C Lp Tryz.f201 H201 [a0, a1] = F201 C Lp a0 a1 := by kernel_rfl
def H203 : List Hint := []
theorem L203 (C : CallOp) (Lp : LoopOp) (a0 : AV) : evalFnA Tryz.prog C Lp Tryz.f203 H203 [a0] = F203 C Lp a0 := by kernel_rfl
def H204 : List Hint := [.dup, .dup, .keep [3], .keep [0,10], .dup, .dup]
theorem L204 (C : CallOp) (Lp : LoopOp) (a0 a1 a2 a3 : AV) : evalFnA Tryz.prog C Lp Tryz.f204 H204 [a0, a1, a2, a3] = F204 C Lp a0 a1 a2 a3 := by kernel_rfl
def H207 : List Hint := [.keep [3,4], .dup, .dup]
theorem L207 (C : CallOp) (Lp : LoopOp) (a0 : AV) : evalFnA Tryz.prog C Lp Tryz.f207 H207 [a0] = F207 C Lp a0 := by kernel_rfl
def H208 : List Hint := [.keep [0], .dup, .dup]
theorem L208 (C : CallOp) (Lp : LoopOp) (a0 a1 : AV) : evalFnA Tryz.prog C Lp Tryz.f208 H208 [a0, a1] = F208 C Lp a0 a1 := by kernel_rfl
def H209 : List Hint := [.keep [0], .dup, .dup]
theorem L209 (C : CallOp) (Lp : LoopOp) (a0 a1 : AV) : evalFnA Tryz.prog C Lp Tryz.f209 H209 [a0, a1] = F209 C Lp a0 a1 := by kernel_rfl
def H212 : List Hint := []
theorem L212 (C : CallOp) (Lp : LoopOp) (a0 : AV) : evalFnA Tryz.prog C Lp Tryz.f212 H212 [a0] = F212 C Lp a0 := by kernel_rfl
def H213 : List Hint := []
theorem L213 (C : CallOp) (Lp : LoopOp) (a0 a1 : AV) : evalFnA Tryz.prog C Lp Tryz.f213 H213 [a0, a1] = F213 C Lp a0 a1 := by kernel_rfl
def H214 : List Hint := []
theorem L214 (C : CallOp) (Lp : LoopOp) (a0 : AV) : evalFnA Tryz.prog C Lp Tryz.f214 H214 [a0] = F214 C Lp a0 := by kernel_rfl
def H216 : List Hint := [.dup, .keep [4], .keep [], .dup, .dup]
theorem L216 (C : CallOp) (Lp : LoopOp) (a0 a1 : AV) : evalFnA Tryz.prog C Lp Tryz.f216 H216 [a0, a1] = F216 C Lp a0 a1 := by kernel_rfl
def H219 : List Hint := [.dup]
theorem L219 (C : CallOp) (Lp : LoopOp) (a0 a1 : AV) : evalFnA Tryz.prog C Lp Tryz.f219 H219 [a0, a1] = F219 C Lp a0 a1 := by kernel_rfl
def H220 : List Hint := [.dup]
theorem L220 (C : CallOp) (Lp : LoopOp) (a0 : AV) : evalFnA Tryz.prog C Lp Tryz.f220 H220 [a0] = F220 C Lp a0 := by kernel_rfl
def H221 : List Hint := [.dup, .dup, .keep [4,5,7], .dup, .plan [0,0,3,7,15,31,63,127,255,31,31,1055,3615,8191,16383,32767] [(0,[]), (0,[]), (0,[]), (0,[]), (0,[]), (0,[]), (0,[]), (0,[]), (1,[]), (0,[]), (0,[]), (0,[]), (1,[]), (1,[]), (0,[]), (0,[])], .dup, .plan [0,1,3,7,0,0,32,112,255,0,0,1024,3584,511,16383] [(0,[]), (0,[]), (0,[]), (1,[]), (0,[]), (0,[]), (0,[]), (1,[]), (1,[]), (0,[]), (0,[]), (0,[]), (1,[]), (0,[]), (0,[])]]
theorem L221 (C : CallOp) (Lp : LoopOp) (a0 a1 : AV) : evalFnA Tryz.prog C Lp Tryz.f221 H221 [a0, a1] = F221 C Lp a0 a1 := by kernel_rfl
def H222 : List Hint := [.keep [4,5,10], .dup, .dup]
theorem L222 (C : CallOp) (Lp : LoopOp) (a0 a1 : AV) : evalFnA Tryz.prog C Lp Tryz.f222 H222 [a0, a1] = F222 C Lp a0 a1 := by kernel_rfl
def H225 : List Hint := [.keep [5], .keep [5,15], .dup, .keep [5]]
theorem L225 (C : CallOp) (Lp : LoopOp) (a0 a1 : AV) : evalFnA Tryz.prog C Lp Tryz.f225 H225 [a0, a1] = F225 C Lp a0 a1 := by kernel_rfl
def H226 : List Hint := []
theorem L226 (C : CallOp) (Lp : LoopOp) (a0 a1 : AV) : evalFnA Tryz.prog C Lp Tryz.f226 H226 [a0, a1] = F226 C Lp a0 a1 := by kernel_rfl
def H232 : List Hint := [.plan [0,1,3,7,15,31,63,127,255,511,1023,2047,511,4607,16383,32767,65535] [(0,[]), (1,[]), (3,[]), (0,[]), (0,[]), (1,[]), (3,[]), (0,[]), (0,[]), (0,[]), (1,[]), (2,[]), (0,[]), (1,[11]), (0,[]), (0,[]), (0,[])]]
theorem L232 (C : CallOp) (Lp : LoopOp) (a0 : AV) : evalFnA Tryz.prog C Lp Tryz.f232 H232 [a0] = F232 C Lp a0 := by kernel_rfl
def H233 : List Hint := []
theorem L233 (C : CallOp) (Lp : LoopOp) (a0 a1 : AV) : evalFnA Tryz.prog C Lp Tryz.f233 H233 [a0, a1] = F233 C Lp a0 a1 := by kernel_rfl
def H237 : List Hint := [.dup, .dup, .keep [6], .dup]
theorem L237 (C : CallOp) (Lp : LoopOp) (a0 a1 : AV) : evalFnA Tryz.prog C Lp Tryz.f237 H237 [a0, a1] = F237 C Lp a0 a1 := by kernel_rfl
def H239 : List Hint := [.dup, .dup, .keep [4,5,0], .dup]
theorem L239 (C : CallOp) (Lp : LoopOp) (a0 a1 : AV) : evalFnA Tryz.prog C Lp Tryz.f239 H239 [a0, a1] = F239 C Lp a0 a1 := by kernel_rfl
def H240 : List Hint := []
theorem L240 (C : CallOp) (Lp : LoopOp) (a0 a1 : AV) : evalFnA Tryz.prog C Lp Tryz.f240 H240 [a0, a1] = F240 C Lp a0 a1 := by kernel_rfl
def H241 : List Hint := []
theorem L241 (C : CallOp) (Lp : LoopOp) (a0 a1 : AV) : evalFnA Tryz.prog C Lp Tryz.f241 H241 [a0, a1] = F241 C Lp a0 a1 := by kernel_rfl
def H247 : List Hint := [.dup, .dup, .plan [0,1,3,7,0,16,48,112,15,511] [(0,[]), (0,[]), (0,[]), (1,[]), (0,[]), (0,[]), (0,[]), (1,[]), (0,[]), (0,[])], .keep [], .dup, .dup, .dup, .dup, .dup, .plan [0,0,0,4,12,28,0,64,192,448,1020,2044,4092,4092,8189,24573,57341,131071,262143,524287] [(0,[]), (0,[]), (0,[]), (0,[]), (0,[]), (1,[]), (0,[]), (0,[]), (0,[]), (1,[]), (3,[]), (0,[]), (0,[]), (0,[]), (0,[]), (0,[]), (3,[]), (0,[]), (0,[]), (3,[])], .plan [0,1,3,7,0,16,48,112,15,511] [(0,[]), (0,[]), (0,[]), (1,[]), (0,[]), (0,[]), (0,[]), (1,[]), (0,[]), (0,[])]]
theorem L247 (C : CallOp) (Lp : LoopOp) (a0 a1 : AV) : evalFnA Tryz.prog C Lp Tryz.f247 H247 [a0, a1] = F247 C Lp a0 a1 := by kernel_rfl
def H248 : List Hint := [.dup, .dup]
theorem L248 (C : CallOp) (Lp : LoopOp) (a0 : AV) : evalFnA Tryz.prog C Lp Tryz.f248 H248 [a0] = F248 C Lp a0 := by kernel_rfl
def H255 : List Hint := [.keep [10], .dup, .keep []]
theorem L255 (C : CallOp) (Lp : LoopOp) (a0 : AV) : evalFnA Tryz.prog C Lp Tryz.f255 H255 [a0] = F255 C Lp a0 := by kernel_rfl
def H258 : List Hint := [.dup]
theorem L258 (C : CallOp) (Lp : LoopOp) (a0 : AV) : evalFnA Tryz.prog C Lp Tryz.f258 H258 [a0] = F258 C Lp a0 := by kernel_rfl
def H259 : List Hint := []
theorem L259 (C : CallOp) (Lp : LoopOp) (a0 : AV) : evalFnA Tryz.prog C Lp Tryz.f259 H259 [a0] = F259 C Lp a0 := by kernel_rfl
def H260 : List Hint := [.keep [1,4], .dup, .plan [0,0,2,0,0,16,0,64,192,0,512,455,2503,8191,16383] [(0,[]), (0,[]), (0,[]), (0,[]), (0,[]), (0,[]), (0,[]), (0,[]), (0,[]), (0,[]), (0,[]), (0,[]), (3,[]), (0,[]), (3,[])], .plan [0,0,2,0,0,16,0,64,192,0,512,455,2503,8191,16383] [(0,[]), (0,[]), (0,[]), (0,[]), (0,[]), (0,[]), (0,[]), (0,[]), (0,[]), (0,[]), (0,[]), (0,[]), (3,[]), (0,[]), (3,[])], .plan [0,0,2,0,0,16,0,64,192,0,512,455,2503,8191,16383] [(0,[]), (0,[]), (0,[]), (0,[]), (0,[]), (0,[]), (0,[]), (0,[]), (0,[]), (0,[]), (0,[]), (0,[]), (3,[]), (0,[]), (3,[])], .plan [0,0,2,0,0,16,0,64,192,0,512,455,2503,8191,16383] [(0,[]), (0,[]), (0,[]), (0,[]), (0,[]), (0,[]), (0,[]), (0,[]), (0,[]), (0,[]), (0,[]), (0,[]), (3,[]), (0,[]), (3,[])], .keep [12,4], .plan [0,0,2,0,0,16,0,64,192,0,512,455,2503,8191,16383] [(0,[]), (0,[]), (0,[]), (0,[]), (0,[]), (0,[]), (0,[]), (0,[]), (0,[]), (0,[]), (0,[]), (0,[]), (3,[]), (0,[]), (3,[])], .plan [0,0,2,0,0,16,0,64,192,0,512,455,2503,8191,16383] [(0,[]), (0,[]), (0,[]), (0,[]), (0,[]), (0,[]), (0,[]), (0,[]), (0,[]), (0,[]), (0,[]), (0,[]), (3,[]), (0,[]), (3,[])], .keep [12,4], .plan [0,0,2,0,0,16,0,64,192,0,512,455,2503,8191,16383] [(0,[]), (0,[]), (0,[]), (0,[]), (0,[]), (0,[]), (0,[]), (0,[]), (0,[]), (0,[]), (0,[]), (0,[]), (3,[]), (0,[]), (3,[])], .dup]
theorem L260 (C : CallOp) (Lp : LoopOp) (a0 a1 : AV) : evalFnA Tryz.prog C Lp Tryz.f260 H260 [a0, a1] = F260 C Lp a0 a1 := by kernel_rfl
def H264 : List Hint := [.dup, .dup, .dup, .dup, .keep [4,8,10], .dup, .keep [4,8], .dup, .dup, .dup, .dup, .dup, .dup]
theorem L264 (C : CallOp) (Lp : LoopOp) (a0 a1 : AV) : evalFnA Tryz.prog C Lp Tryz.f264 H264 [a0, a1] = F264 C Lp a0 a1 := by kernel_rfl
def H268 : List Hint := [.dup, .dup, .dup, .plan [0,1,3,0,8,24,63,127,255,255,0,1535,4095] [(0,[]), (0,[]), (1,[]), (0,[]), (0,[]), (1,[]), (2,[]), (0,[]), (0,[]), (0,[]), (0,[]), (3,[]), (0,[])], .dup, .dup, .plan [0,0,0,0,0,16,48,0,113,369,881,1907,3955,8051,16375,32759,65527,131071,262143,524287] [(0,[]), (0,[]), (0,[]), (0,[]), (0,[]), (0,[]), (1,[]), (1,[]), (0,[]), (0,[]), (3,[7]), (0,[]), (0,[]), (3,[7]), (0,[]), (0,[]), (3,[]), (0,[]), (0,[]), (3,[])], .keep []]
theorem L268 (C : CallOp) (Lp : LoopOp) (a0 a1 : AV) : evalFnA Tryz.prog C Lp Tryz.f268 H268 [a0, a1] = F268 C Lp a0 a1 := by kernel_rfl
def H269 : List Hint := [.keep [], .dup, .keep []]
def H269e : List Hint := [.dup, .dup, .plan [0,0,2,1,15] [(0,[]), (0,[]), (1,[]), (3,[2]), (3,[])]]
noncomputable def D269 : DefData := match defOf Tryz.f269 Tryz.f300 300 H269 H269e with
  | some D => D
  | none => dummyDef
theorem DK269 : defOf Tryz.f269 Tryz.f300 300 H269 H269e = some D269 := by kernel_rfl
theorem DL269 (C : CallOp) (Lp : LoopOp) (a0 a1 : AV) : evalDef Tryz.prog C Lp Tryz.f269 D269 [a0, a1] = F269 C Lp a0 a1 := by kernel_rfl
def H270 : List Hint := [.dup, .plan [0,1,3,7,0,16,63,127,255,255,511,2047] [(0,[]), (0,[]), (0,[]), (1,[]), (1,[]), (0,[]), (3,[]), (0,[]), (0,[]), (0,[]), (0,[]), (0,[])], .dup]
theorem L270 (C : CallOp) (Lp : LoopOp) (a0 a1 : AV) : evalFnA Tryz.prog C Lp Tryz.f270 H270 [a0, a1] = F270 C Lp a0 a1 := by kernel_rfl
def H283 : List Hint := [.keep [0,2], .keep [0,2], .keep [0,2]]
theorem L283 (C : CallOp) (Lp : LoopOp) (a0 : AV) : evalFnA Tryz.prog C Lp Tryz.f283 H283 [a0] = F283 C Lp a0 := by kernel_rfl
def H289 : List Hint := []
theorem L289 (C : CallOp) (Lp : LoopOp) (a0 : AV) : evalFnA Tryz.prog C Lp Tryz.f289 H289 [a0] = F289 C Lp a0 := by kernel_rfl
def H290 : List Hint := [.dup]
theorem L290 (C : CallOp) (Lp : LoopOp) (a0 : AV) : evalFnA Tryz.prog C Lp Tryz.f290 H290 [a0] = F290 C Lp a0 := by kernel_rfl
def H297 : List Hint := []
theorem L297 (C : CallOp) (Lp : LoopOp) (a0 a1 : AV) : evalFnA Tryz.prog C Lp Tryz.f297 H297 [a0, a1] = F297 C Lp a0 a1 := by kernel_rfl
def H298 : List Hint := []
theorem L298 (C : CallOp) (Lp : LoopOp) (a0 : AV) : evalFnA Tryz.prog C Lp Tryz.f298 H298 [a0] = F298 C Lp a0 := by kernel_rfl
def H299 : List Hint := [.dup, .dup, .dup, .dup, .dup, .dup, .keep [7], .keep [7], .dup, .keep [6]]
theorem L299 (C : CallOp) (Lp : LoopOp) (a0 a1 : AV) : evalFnA Tryz.prog C Lp Tryz.f299 H299 [a0, a1] = F299 C Lp a0 a1 := by kernel_rfl
def H301 : List Hint := [.dup]
theorem L301 (C : CallOp) (Lp : LoopOp) (a0 a1 : AV) : evalFnA Tryz.prog C Lp Tryz.f301 H301 [a0, a1] = F301 C Lp a0 a1 := by kernel_rfl
def H302 : List Hint := [.keep [2], .dup]
theorem L302 (C : CallOp) (Lp : LoopOp) (a0 : AV) : evalFnA Tryz.prog C Lp Tryz.f302 H302 [a0] = F302 C Lp a0 := by kernel_rfl
def H303 : List Hint := []
theorem L303 (C : CallOp) (Lp : LoopOp) (a0 a1 : AV) : evalFnA Tryz.prog C Lp Tryz.f303 H303 [a0, a1] = F303 C Lp a0 a1 := by kernel_rfl
def H305 : List Hint := []
theorem L305 (C : CallOp) (Lp : LoopOp) (a0 a1 : AV) : evalFnA Tryz.prog C Lp Tryz.f305 H305 [a0, a1] = F305 C Lp a0 a1 := by kernel_rfl
def H306 : List Hint := [.keep [3,14], .dup]
theorem L306 (C : CallOp) (Lp : LoopOp) (a0 : AV) : evalFnA Tryz.prog C Lp Tryz.f306 H306 [a0] = F306 C Lp a0 := by kernel_rfl
def H307 : List Hint := [.dup, .dup]
theorem L307 (C : CallOp) (Lp : LoopOp) (a0 : AV) : evalFnA Tryz.prog C Lp Tryz.f307 H307 [a0] = F307 C Lp a0 := by kernel_rfl
def H330 : List Hint := [.dup]
theorem L330 (C : CallOp) (Lp : LoopOp) (a0 a1 : AV) : evalFnA Tryz.prog C Lp Tryz.f330 H330 [a0, a1] = F330 C Lp a0 a1 := by kernel_rfl
def H332 : List Hint := [.dup, .dup, .dup]
theorem L332 (C : CallOp) (Lp : LoopOp) (a0 a1 : AV) : evalFnA Tryz.prog C Lp Tryz.f332 H332 [a0, a1] = F332 C Lp a0 a1 := by kernel_rfl
def H333 : List Hint := []
theorem L333 (C : CallOp) (Lp : LoopOp) (a0 a1 : AV) : evalFnA Tryz.prog C Lp Tryz.f333 H333 [a0, a1] = F333 C Lp a0 a1 := by kernel_rfl
def H334 : List Hint := [.dup]
theorem L334 (C : CallOp) (Lp : LoopOp) (a0 : AV) : evalFnA Tryz.prog C Lp Tryz.f334 H334 [a0] = F334 C Lp a0 := by kernel_rfl
def H335 : List Hint := [.keep [4,8], .dup, .dup]
theorem L335 (C : CallOp) (Lp : LoopOp) (a0 a1 : AV) : evalFnA Tryz.prog C Lp Tryz.f335 H335 [a0, a1] = F335 C Lp a0 a1 := by kernel_rfl
def H336 : List Hint := [.keep [4,2,3,11], .dup, .keep [4,2,3,18], .dup, .keep [4,2,3], .dup]
theorem L336 (C : CallOp) (Lp : LoopOp) (a0 : AV) : evalFnA Tryz.prog C Lp Tryz.f336 H336 [a0] = F336 C Lp a0 := by kernel_rfl
def H348 : List Hint := [.keep [2,3,5,4], .dup, .keep [2,3,6,5], .dup, .dup]
theorem L348 (C : CallOp) (Lp : LoopOp) (a0 : AV) : evalFnA Tryz.prog C Lp Tryz.f348 H348 [a0] = F348 C Lp a0 := by kernel_rfl
def H349 : List Hint := [.dup, .plan [0,0,3,0,0,0,32,112,248,7,1023,2047] [(0,[]), (0,[]), (1,[]), (0,[]), (0,[]), (0,[]), (1,[]), (0,[]), (1,[]), (0,[]), (0,[]), (0,[])]]
theorem L349 (C : CallOp) (Lp : LoopOp) (a0 a1 : AV) : evalFnA Tryz.prog C Lp Tryz.f349 H349 [a0, a1] = F349 C Lp a0 a1 := by kernel_rfl
def H350 : List Hint := []
theorem L350 (C : CallOp) (Lp : LoopOp) (a0 a1 a2 : AV) : evalFnA Tryz.prog C Lp Tryz.f350 H350 [a0, a1, a2] = F350 C Lp a0 a1 a2 := by kernel_rfl
def H351 : List Hint := [.dup]
theorem L351 (C : CallOp) (Lp : LoopOp) (a0 : AV) : evalFnA Tryz.prog C Lp Tryz.f351 H351 [a0] = F351 C Lp a0 := by kernel_rfl
def H352 : List Hint := []
theorem L352 (C : CallOp) (Lp : LoopOp) (a0 : AV) : evalFnA Tryz.prog C Lp Tryz.f352 H352 [a0] = F352 C Lp a0 := by kernel_rfl
def H362 : List Hint := [.dup, .keep [0,2,3], .dup, .keep [2,3,6,49], .dup, .dup, .keep [6]]
theorem L362 (C : CallOp) (Lp : LoopOp) (a0 : AV) : evalFnA Tryz.prog C Lp Tryz.f362 H362 [a0] = F362 C Lp a0 := by kernel_rfl
end Go.Am
