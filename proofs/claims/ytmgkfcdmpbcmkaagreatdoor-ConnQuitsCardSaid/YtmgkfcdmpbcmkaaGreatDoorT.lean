/- A text of the claim: ST. -/
import Derived.Test.YtmgkfcdmpbcmkaaGreatDoorAmF
import Derived.KernelRfl
import Derived.Test.YtmgkfcdmpbcmkaaGreatDoorProg
import Derived.Test.YtmgkfcdmpbcmkaaGreatDoorL0
import Derived.Test.YtmgkfcdmpbcmkaaGreatDoorL1
namespace Go.Am
open Go.Proofs
set_option maxRecDepth 1000000
set_option linter.unusedVariables false
noncomputable def sh3 : ShFn := fun C Lp xs => match xs with
  | [a0, a1] => F3 C Lp a0 a1
  | xs => evalFnA Tryz.prog C Lp Tryz.f3 H3 xs
theorem E3 (C : CallOp) (Lp : LoopOp) (xs : List AV) : sh3 C Lp xs = evalFn Tryz.prog C Lp Tryz.f3 H3 xs := by
  rw [← evalFnA_eq]; unfold sh3; split
  · exact (L3 C Lp _ _).symm
  · rfl
noncomputable def sh4 : ShFn := fun C Lp xs => match xs with
  | [a0, a1] => F4 C Lp a0 a1
  | xs => evalFnA Tryz.prog C Lp Tryz.f4 H4 xs
theorem E4 (C : CallOp) (Lp : LoopOp) (xs : List AV) : sh4 C Lp xs = evalFn Tryz.prog C Lp Tryz.f4 H4 xs := by
  rw [← evalFnA_eq]; unfold sh4; split
  · exact (L4 C Lp _ _).symm
  · rfl
noncomputable def sh5 : ShFn := fun C Lp xs => match xs with
  | [a0] => F5 C Lp a0
  | xs => evalFnA Tryz.prog C Lp Tryz.f5 H5 xs
theorem E5 (C : CallOp) (Lp : LoopOp) (xs : List AV) : sh5 C Lp xs = evalFn Tryz.prog C Lp Tryz.f5 H5 xs := by
  rw [← evalFnA_eq]; unfold sh5; split
  · exact (L5 C Lp _).symm
  · rfl
noncomputable def sh6 : ShFn := fun C Lp xs => match xs with
  | [a0, a1, a2] => F6 C Lp a0 a1 a2
  | xs => evalFnA Tryz.prog C Lp Tryz.f6 H6 xs
theorem E6 (C : CallOp) (Lp : LoopOp) (xs : List AV) : sh6 C Lp xs = evalFn Tryz.prog C Lp Tryz.f6 H6 xs := by
  rw [← evalFnA_eq]; unfold sh6; split
  · exact (L6 C Lp _ _ _).symm
  · rfl
noncomputable def sh7 : ShFn := fun C Lp xs => match xs with
  | [a0, a1] => F7 C Lp a0 a1
  | xs => evalFnA Tryz.prog C Lp Tryz.f7 H7 xs
theorem E7 (C : CallOp) (Lp : LoopOp) (xs : List AV) : sh7 C Lp xs = evalFn Tryz.prog C Lp Tryz.f7 H7 xs := by
  rw [← evalFnA_eq]; unfold sh7; split
  · exact (L7 C Lp _ _).symm
  · rfl
noncomputable def sh8 : ShFn := fun C Lp xs => match xs with
  | [a0, a1] => F8 C Lp a0 a1
  | xs => evalFnA Tryz.prog C Lp Tryz.f8 H8 xs
theorem E8 (C : CallOp) (Lp : LoopOp) (xs : List AV) : sh8 C Lp xs = evalFn Tryz.prog C Lp Tryz.f8 H8 xs := by
  rw [← evalFnA_eq]; unfold sh8; split
  · exact (L8 C Lp _ _).symm
  · rfl
noncomputable def sh9 : ShFn := fun C Lp xs => match xs with
  | [a0, a1] => F9 C Lp a0 a1
  | xs => evalFnA Tryz.prog C Lp Tryz.f9 H9 xs
theorem E9 (C : CallOp) (Lp : LoopOp) (xs : List AV) : sh9 C Lp xs = evalFn Tryz.prog C Lp Tryz.f9 H9 xs := by
  rw [← evalFnA_eq]; unfold sh9; split
  · exact (L9 C Lp _ _).symm
  · rfl
noncomputable def sh10 : ShFn := fun C Lp xs => match xs with
  | [a0, a1, a2] => F10 C Lp a0 a1 a2
  | xs => evalFnA Tryz.prog C Lp Tryz.f10 H10 xs
theorem E10 (C : CallOp) (Lp : LoopOp) (xs : List AV) : sh10 C Lp xs = evalFn Tryz.prog C Lp Tryz.f10 H10 xs := by
  rw [← evalFnA_eq]; unfold sh10; split
  · exact (L10 C Lp _ _ _).symm
  · rfl
noncomputable def sh11 : ShFn := fun C Lp xs => match xs with
  | [a0, a1] => F11 C Lp a0 a1
  | xs => evalFnA Tryz.prog C Lp Tryz.f11 H11 xs
theorem E11 (C : CallOp) (Lp : LoopOp) (xs : List AV) : sh11 C Lp xs = evalFn Tryz.prog C Lp Tryz.f11 H11 xs := by
  rw [← evalFnA_eq]; unfold sh11; split
  · exact (L11 C Lp _ _).symm
  · rfl
noncomputable def sh12 : ShFn := fun C Lp xs => match xs with
  | [] => F12 C Lp
  | xs => evalFnA Tryz.prog C Lp Tryz.f12 H12 xs
theorem E12 (C : CallOp) (Lp : LoopOp) (xs : List AV) : sh12 C Lp xs = evalFn Tryz.prog C Lp Tryz.f12 H12 xs := by
  rw [← evalFnA_eq]; unfold sh12; split
  · exact (L12 C Lp).symm
  · rfl
noncomputable def sh13 : ShFn := fun C Lp xs => match xs with
  | [a0, a1] => F13 C Lp a0 a1
  | xs => evalFnA Tryz.prog C Lp Tryz.f13 H13 xs
theorem E13 (C : CallOp) (Lp : LoopOp) (xs : List AV) : sh13 C Lp xs = evalFn Tryz.prog C Lp Tryz.f13 H13 xs := by
  rw [← evalFnA_eq]; unfold sh13; split
  · exact (L13 C Lp _ _).symm
  · rfl
noncomputable def sh14 : ShFn := fun C Lp xs => match xs with
  | [] => F14 C Lp
  | xs => evalFnA Tryz.prog C Lp Tryz.f14 H14 xs
theorem E14 (C : CallOp) (Lp : LoopOp) (xs : List AV) : sh14 C Lp xs = evalFn Tryz.prog C Lp Tryz.f14 H14 xs := by
  rw [← evalFnA_eq]; unfold sh14; split
  · exact (L14 C Lp).symm
  · rfl
noncomputable def sh15 : ShFn := fun C Lp xs => match xs with
  | [a0, a1, a2] => F15 C Lp a0 a1 a2
  | xs => evalFnA Tryz.prog C Lp Tryz.f15 H15 xs
theorem E15 (C : CallOp) (Lp : LoopOp) (xs : List AV) : sh15 C Lp xs = evalFn Tryz.prog C Lp Tryz.f15 H15 xs := by
  rw [← evalFnA_eq]; unfold sh15; split
  · exact (L15 C Lp _ _ _).symm
  · rfl
noncomputable def sh16 : ShFn := fun C Lp xs => match xs with
  | [a0] => F16 C Lp a0
  | xs => evalFnA Tryz.prog C Lp Tryz.f16 H16 xs
theorem E16 (C : CallOp) (Lp : LoopOp) (xs : List AV) : sh16 C Lp xs = evalFn Tryz.prog C Lp Tryz.f16 H16 xs := by
  rw [← evalFnA_eq]; unfold sh16; split
  · exact (L16 C Lp _).symm
  · rfl
noncomputable def sh17 : ShFn := fun C Lp xs => match xs with
  | [a0, a1] => F17 C Lp a0 a1
  | xs => evalFnA Tryz.prog C Lp Tryz.f17 H17 xs
theorem E17 (C : CallOp) (Lp : LoopOp) (xs : List AV) : sh17 C Lp xs = evalFn Tryz.prog C Lp Tryz.f17 H17 xs := by
  rw [← evalFnA_eq]; unfold sh17; split
  · exact (L17 C Lp _ _).symm
  · rfl
noncomputable def sh18 : ShFn := fun C Lp xs => match xs with
  | [a0, a1, a2] => F18 C Lp a0 a1 a2
  | xs => evalFnA Tryz.prog C Lp Tryz.f18 H18 xs
theorem E18 (C : CallOp) (Lp : LoopOp) (xs : List AV) : sh18 C Lp xs = evalFn Tryz.prog C Lp Tryz.f18 H18 xs := by
  rw [← evalFnA_eq]; unfold sh18; split
  · exact (L18 C Lp _ _ _).symm
  · rfl
noncomputable def sh19 : ShFn := fun C Lp xs => match xs with
  | [] => F19 C Lp
  | xs => evalFnA Tryz.prog C Lp Tryz.f19 H19 xs
theorem E19 (C : CallOp) (Lp : LoopOp) (xs : List AV) : sh19 C Lp xs = evalFn Tryz.prog C Lp Tryz.f19 H19 xs := by
  rw [← evalFnA_eq]; unfold sh19; split
  · exact (L19 C Lp).symm
  · rfl
noncomputable def sh21 : ShFn := fun C Lp xs => match xs with
  | [a0, a1] => F21 C Lp a0 a1
  | xs => evalFnA Tryz.prog C Lp Tryz.f21 H21 xs
theorem E21 (C : CallOp) (Lp : LoopOp) (xs : List AV) : sh21 C Lp xs = evalFn Tryz.prog C Lp Tryz.f21 H21 xs := by
  rw [← evalFnA_eq]; unfold sh21; split
  · exact (L21 C Lp _ _).symm
  · rfl
noncomputable def sh23 : ShFn := fun C Lp xs => match xs with
  | [a0, a1] => F23 C Lp a0 a1
  | xs => evalFnA Tryz.prog C Lp Tryz.f23 H23 xs
theorem E23 (C : CallOp) (Lp : LoopOp) (xs : List AV) : sh23 C Lp xs = evalFn Tryz.prog C Lp Tryz.f23 H23 xs := by
  rw [← evalFnA_eq]; unfold sh23; split
  · exact (L23 C Lp _ _).symm
  · rfl
noncomputable def sh24 : ShFn := fun C Lp xs => match xs with
  | [a0] => F24 C Lp a0
  | xs => evalFnA Tryz.prog C Lp Tryz.f24 H24 xs
theorem E24 (C : CallOp) (Lp : LoopOp) (xs : List AV) : sh24 C Lp xs = evalFn Tryz.prog C Lp Tryz.f24 H24 xs := by
  rw [← evalFnA_eq]; unfold sh24; split
  · exact (L24 C Lp _).symm
  · rfl
noncomputable def sh25 : ShFn := fun C Lp xs => match xs with
  | [a0] => F25 C Lp a0
  | xs => evalFnA Tryz.prog C Lp Tryz.f25 H25 xs
theorem E25 (C : CallOp) (Lp : LoopOp) (xs : List AV) : sh25 C Lp xs = evalFn Tryz.prog C Lp Tryz.f25 H25 xs := by
  rw [← evalFnA_eq]; unfold sh25; split
  · exact (L25 C Lp _).symm
  · rfl
noncomputable def sh27 : ShFn := fun C Lp xs => match xs with
  | [a0] => F27 C Lp a0
  | xs => evalFnA Tryz.prog C Lp Tryz.f27 H27 xs
theorem E27 (C : CallOp) (Lp : LoopOp) (xs : List AV) : sh27 C Lp xs = evalFn Tryz.prog C Lp Tryz.f27 H27 xs := by
  rw [← evalFnA_eq]; unfold sh27; split
  · exact (L27 C Lp _).symm
  · rfl
noncomputable def sh28 : ShFn := fun C Lp xs => match xs with
  | [a0] => F28 C Lp a0
  | xs => evalFnA Tryz.prog C Lp Tryz.f28 H28 xs
theorem E28 (C : CallOp) (Lp : LoopOp) (xs : List AV) : sh28 C Lp xs = evalFn Tryz.prog C Lp Tryz.f28 H28 xs := by
  rw [← evalFnA_eq]; unfold sh28; split
  · exact (L28 C Lp _).symm
  · rfl
noncomputable def sh30 : ShFn := fun C Lp xs => match xs with
  | [a0] => F30 C Lp a0
  | xs => evalFnA Tryz.prog C Lp Tryz.f30 H30 xs
theorem E30 (C : CallOp) (Lp : LoopOp) (xs : List AV) : sh30 C Lp xs = evalFn Tryz.prog C Lp Tryz.f30 H30 xs := by
  rw [← evalFnA_eq]; unfold sh30; split
  · exact (L30 C Lp _).symm
  · rfl
noncomputable def sh31 : ShFn := fun C Lp xs => match xs with
  | [a0] => F31 C Lp a0
  | xs => evalFnA Tryz.prog C Lp Tryz.f31 H31 xs
theorem E31 (C : CallOp) (Lp : LoopOp) (xs : List AV) : sh31 C Lp xs = evalFn Tryz.prog C Lp Tryz.f31 H31 xs := by
  rw [← evalFnA_eq]; unfold sh31; split
  · exact (L31 C Lp _).symm
  · rfl
noncomputable def sh32 : ShFn := fun C Lp xs => match xs with
  | [a0, a1] => F32 C Lp a0 a1
  | xs => evalFnA Tryz.prog C Lp Tryz.f32 H32 xs
theorem E32 (C : CallOp) (Lp : LoopOp) (xs : List AV) : sh32 C Lp xs = evalFn Tryz.prog C Lp Tryz.f32 H32 xs := by
  rw [← evalFnA_eq]; unfold sh32; split
  · exact (L32 C Lp _ _).symm
  · rfl
noncomputable def sh33 : ShFn := fun C Lp xs => match xs with
  | [a0] => F33 C Lp a0
  | xs => evalFnA Tryz.prog C Lp Tryz.f33 H33 xs
theorem E33 (C : CallOp) (Lp : LoopOp) (xs : List AV) : sh33 C Lp xs = evalFn Tryz.prog C Lp Tryz.f33 H33 xs := by
  rw [← evalFnA_eq]; unfold sh33; split
  · exact (L33 C Lp _).symm
  · rfl
noncomputable def sh34 : ShFn := fun C Lp xs => match xs with
  | [a0, a1] => F34 C Lp a0 a1
  | xs => evalFnA Tryz.prog C Lp Tryz.f34 H34 xs
theorem E34 (C : CallOp) (Lp : LoopOp) (xs : List AV) : sh34 C Lp xs = evalFn Tryz.prog C Lp Tryz.f34 H34 xs := by
  rw [← evalFnA_eq]; unfold sh34; split
  · exact (L34 C Lp _ _).symm
  · rfl
noncomputable def sh38 : ShFn := fun C Lp xs => match xs with
  | [a0] => F38 C Lp a0
  | xs => evalFnA Tryz.prog C Lp Tryz.f38 H38 xs
theorem E38 (C : CallOp) (Lp : LoopOp) (xs : List AV) : sh38 C Lp xs = evalFn Tryz.prog C Lp Tryz.f38 H38 xs := by
  rw [← evalFnA_eq]; unfold sh38; split
  · exact (L38 C Lp _).symm
  · rfl
noncomputable def sh39 : ShFn := fun C Lp xs => match xs with
  | [a0, a1, a2] => F39 C Lp a0 a1 a2
  | xs => evalFnA Tryz.prog C Lp Tryz.f39 H39 xs
theorem E39 (C : CallOp) (Lp : LoopOp) (xs : List AV) : sh39 C Lp xs = evalFn Tryz.prog C Lp Tryz.f39 H39 xs := by
  rw [← evalFnA_eq]; unfold sh39; split
  · exact (L39 C Lp _ _ _).symm
  · rfl
noncomputable def sh40 : ShFn := fun C Lp xs => match xs with
  | [a0, a1, a2, a3] => F40 C Lp a0 a1 a2 a3
  | xs => evalFnA Tryz.prog C Lp Tryz.f40 H40 xs
theorem E40 (C : CallOp) (Lp : LoopOp) (xs : List AV) : sh40 C Lp xs = evalFn Tryz.prog C Lp Tryz.f40 H40 xs := by
  rw [← evalFnA_eq]; unfold sh40; split
  · exact (L40 C Lp _ _ _ _).symm
  · rfl
noncomputable def sh41 : ShFn := fun C Lp xs => match xs with
  | [a0] => F41 C Lp a0
  | xs => evalFnA Tryz.prog C Lp Tryz.f41 H41 xs
theorem E41 (C : CallOp) (Lp : LoopOp) (xs : List AV) : sh41 C Lp xs = evalFn Tryz.prog C Lp Tryz.f41 H41 xs := by
  rw [← evalFnA_eq]; unfold sh41; split
  · exact (L41 C Lp _).symm
  · rfl
noncomputable def sh42 : ShFn := fun C Lp xs => match xs with
  | [a0] => F42 C Lp a0
  | xs => evalFnA Tryz.prog C Lp Tryz.f42 H42 xs
theorem E42 (C : CallOp) (Lp : LoopOp) (xs : List AV) : sh42 C Lp xs = evalFn Tryz.prog C Lp Tryz.f42 H42 xs := by
  rw [← evalFnA_eq]; unfold sh42; split
  · exact (L42 C Lp _).symm
  · rfl
noncomputable def sh43 : ShFn := fun C Lp xs => match xs with
  | [a0] => F43 C Lp a0
  | xs => evalFnA Tryz.prog C Lp Tryz.f43 H43 xs
theorem E43 (C : CallOp) (Lp : LoopOp) (xs : List AV) : sh43 C Lp xs = evalFn Tryz.prog C Lp Tryz.f43 H43 xs := by
  rw [← evalFnA_eq]; unfold sh43; split
  · exact (L43 C Lp _).symm
  · rfl
noncomputable def sh44 : ShFn := fun C Lp xs => match xs with
  | [a0] => F44 C Lp a0
  | xs => evalFnA Tryz.prog C Lp Tryz.f44 H44 xs
theorem E44 (C : CallOp) (Lp : LoopOp) (xs : List AV) : sh44 C Lp xs = evalFn Tryz.prog C Lp Tryz.f44 H44 xs := by
  rw [← evalFnA_eq]; unfold sh44; split
  · exact (L44 C Lp _).symm
  · rfl
noncomputable def sh45 : ShFn := fun C Lp xs => match xs with
  | [a0, a1, a2, a3] => F45 C Lp a0 a1 a2 a3
  | xs => evalFnA Tryz.prog C Lp Tryz.f45 H45 xs
theorem E45 (C : CallOp) (Lp : LoopOp) (xs : List AV) : sh45 C Lp xs = evalFn Tryz.prog C Lp Tryz.f45 H45 xs := by
  rw [← evalFnA_eq]; unfold sh45; split
  · exact (L45 C Lp _ _ _ _).symm
  · rfl
noncomputable def sh46 : ShFn := fun C Lp xs => match xs with
  | [a0, a1, a2] => F46 C Lp a0 a1 a2
  | xs => evalFnA Tryz.prog C Lp Tryz.f46 H46 xs
theorem E46 (C : CallOp) (Lp : LoopOp) (xs : List AV) : sh46 C Lp xs = evalFn Tryz.prog C Lp Tryz.f46 H46 xs := by
  rw [← evalFnA_eq]; unfold sh46; split
  · exact (L46 C Lp _ _ _).symm
  · rfl
noncomputable def sh47 : ShFn := fun C Lp xs => match xs with
  | [a0, a1, a2] => F47 C Lp a0 a1 a2
  | xs => evalFnA Tryz.prog C Lp Tryz.f47 H47 xs
theorem E47 (C : CallOp) (Lp : LoopOp) (xs : List AV) : sh47 C Lp xs = evalFn Tryz.prog C Lp Tryz.f47 H47 xs := by
  rw [← evalFnA_eq]; unfold sh47; split
  · exact (L47 C Lp _ _ _).symm
  · rfl
noncomputable def sh48 : ShFn := fun C Lp xs => match xs with
  | [a0, a1] => F48 C Lp a0 a1
  | xs => evalFnA Tryz.prog C Lp Tryz.f48 H48 xs
theorem E48 (C : CallOp) (Lp : LoopOp) (xs : List AV) : sh48 C Lp xs = evalFn Tryz.prog C Lp Tryz.f48 H48 xs := by
  rw [← evalFnA_eq]; unfold sh48; split
  · exact (L48 C Lp _ _).symm
  · rfl
noncomputable def sh49 : ShFn := fun C Lp xs => match xs with
  | [a0] => F49 C Lp a0
  | xs => evalFnA Tryz.prog C Lp Tryz.f49 H49 xs
theorem E49 (C : CallOp) (Lp : LoopOp) (xs : List AV) : sh49 C Lp xs = evalFn Tryz.prog C Lp Tryz.f49 H49 xs := by
  rw [← evalFnA_eq]; unfold sh49; split
  · exact (L49 C Lp _).symm
  · rfl
noncomputable def sh50 : ShFn := fun C Lp xs => match xs with
  | [a0] => F50 C Lp a0
  | xs => evalFnA Tryz.prog C Lp Tryz.f50 H50 xs
theorem E50 (C : CallOp) (Lp : LoopOp) (xs : List AV) : sh50 C Lp xs = evalFn Tryz.prog C Lp Tryz.f50 H50 xs := by
  rw [← evalFnA_eq]; unfold sh50; split
  · exact (L50 C Lp _).symm
  · rfl
noncomputable def sh51 : ShFn := fun C Lp xs => match xs with
  | [a0, a1] => F51 C Lp a0 a1
  | xs => evalFnA Tryz.prog C Lp Tryz.f51 H51 xs
theorem E51 (C : CallOp) (Lp : LoopOp) (xs : List AV) : sh51 C Lp xs = evalFn Tryz.prog C Lp Tryz.f51 H51 xs := by
  rw [← evalFnA_eq]; unfold sh51; split
  · exact (L51 C Lp _ _).symm
  · rfl
noncomputable def sh52 : ShFn := fun C Lp xs => match xs with
  | [a0, a1] => F52 C Lp a0 a1
  | xs => evalFnA Tryz.prog C Lp Tryz.f52 H52 xs
theorem E52 (C : CallOp) (Lp : LoopOp) (xs : List AV) : sh52 C Lp xs = evalFn Tryz.prog C Lp Tryz.f52 H52 xs := by
  rw [← evalFnA_eq]; unfold sh52; split
  · exact (L52 C Lp _ _).symm
  · rfl
noncomputable def sh53 : ShFn := fun C Lp xs => match xs with
  | [a0, a1] => F53 C Lp a0 a1
  | xs => evalFnA Tryz.prog C Lp Tryz.f53 H53 xs
theorem E53 (C : CallOp) (Lp : LoopOp) (xs : List AV) : sh53 C Lp xs = evalFn Tryz.prog C Lp Tryz.f53 H53 xs := by
  rw [← evalFnA_eq]; unfold sh53; split
  · exact (L53 C Lp _ _).symm
  · rfl
noncomputable def sh59 : ShFn := fun C Lp xs => match xs with
  | [a0] => F59 C Lp a0
  | xs => evalFnA Tryz.prog C Lp Tryz.f59 H59 xs
theorem E59 (C : CallOp) (Lp : LoopOp) (xs : List AV) : sh59 C Lp xs = evalFn Tryz.prog C Lp Tryz.f59 H59 xs := by
  rw [← evalFnA_eq]; unfold sh59; split
  · exact (L59 C Lp _).symm
  · rfl
noncomputable def sh61 : ShFn := fun C Lp xs => match xs with
  | [a0] => F61 C Lp a0
  | xs => evalFnA Tryz.prog C Lp Tryz.f61 H61 xs
theorem E61 (C : CallOp) (Lp : LoopOp) (xs : List AV) : sh61 C Lp xs = evalFn Tryz.prog C Lp Tryz.f61 H61 xs := by
  rw [← evalFnA_eq]; unfold sh61; split
  · exact (L61 C Lp _).symm
  · rfl
noncomputable def sh62 : ShFn := fun C Lp xs => match xs with
  | [a0] => F62 C Lp a0
  | xs => evalFnA Tryz.prog C Lp Tryz.f62 H62 xs
theorem E62 (C : CallOp) (Lp : LoopOp) (xs : List AV) : sh62 C Lp xs = evalFn Tryz.prog C Lp Tryz.f62 H62 xs := by
  rw [← evalFnA_eq]; unfold sh62; split
  · exact (L62 C Lp _).symm
  · rfl
noncomputable def sh79 : ShFn := fun C Lp xs => match xs with
  | [a0, a1] => F79 C Lp a0 a1
  | xs => evalFnA Tryz.prog C Lp Tryz.f79 H79 xs
theorem E79 (C : CallOp) (Lp : LoopOp) (xs : List AV) : sh79 C Lp xs = evalFn Tryz.prog C Lp Tryz.f79 H79 xs := by
  rw [← evalFnA_eq]; unfold sh79; split
  · exact (L79 C Lp _ _).symm
  · rfl
noncomputable def sh80 : ShFn := fun C Lp xs => match xs with
  | [a0, a1, a2, a3, a4] => F80 C Lp a0 a1 a2 a3 a4
  | xs => evalFnA Tryz.prog C Lp Tryz.f80 H80 xs
theorem E80 (C : CallOp) (Lp : LoopOp) (xs : List AV) : sh80 C Lp xs = evalFn Tryz.prog C Lp Tryz.f80 H80 xs := by
  rw [← evalFnA_eq]; unfold sh80; split
  · exact (L80 C Lp _ _ _ _ _).symm
  · rfl
noncomputable def sh81 : ShFn := fun C Lp xs => match xs with
  | [a0, a1] => F81 C Lp a0 a1
  | xs => evalFnA Tryz.prog C Lp Tryz.f81 H81 xs
theorem E81 (C : CallOp) (Lp : LoopOp) (xs : List AV) : sh81 C Lp xs = evalFn Tryz.prog C Lp Tryz.f81 H81 xs := by
  rw [← evalFnA_eq]; unfold sh81; split
  · exact (L81 C Lp _ _).symm
  · rfl
noncomputable def sh82 : ShFn := fun C Lp xs => match xs with
  | [a0] => F82 C Lp a0
  | xs => evalFnA Tryz.prog C Lp Tryz.f82 H82 xs
theorem E82 (C : CallOp) (Lp : LoopOp) (xs : List AV) : sh82 C Lp xs = evalFn Tryz.prog C Lp Tryz.f82 H82 xs := by
  rw [← evalFnA_eq]; unfold sh82; split
  · exact (L82 C Lp _).symm
  · rfl
noncomputable def sh83 : ShFn := fun C Lp xs => match xs with
  | [] => F83 C Lp
  | xs => evalFnA Tryz.prog C Lp Tryz.f83 H83 xs
theorem E83 (C : CallOp) (Lp : LoopOp) (xs : List AV) : sh83 C Lp xs = evalFn Tryz.prog C Lp Tryz.f83 H83 xs := by
  rw [← evalFnA_eq]; unfold sh83; split
  · exact (L83 C Lp).symm
  · rfl
noncomputable def sh84 : ShFn := fun C Lp xs => match xs with
  | [] => F84 C Lp
  | xs => evalFnA Tryz.prog C Lp Tryz.f84 H84 xs
theorem E84 (C : CallOp) (Lp : LoopOp) (xs : List AV) : sh84 C Lp xs = evalFn Tryz.prog C Lp Tryz.f84 H84 xs := by
  rw [← evalFnA_eq]; unfold sh84; split
  · exact (L84 C Lp).symm
  · rfl
noncomputable def sh85 : ShFn := fun C Lp xs => match xs with
  | [a0] => F85 C Lp a0
  | xs => evalFnA Tryz.prog C Lp Tryz.f85 H85 xs
theorem E85 (C : CallOp) (Lp : LoopOp) (xs : List AV) : sh85 C Lp xs = evalFn Tryz.prog C Lp Tryz.f85 H85 xs := by
  rw [← evalFnA_eq]; unfold sh85; split
  · exact (L85 C Lp _).symm
  · rfl
noncomputable def sh86 : ShFn := fun C Lp xs => match xs with
  | [] => F86 C Lp
  | xs => evalFnA Tryz.prog C Lp Tryz.f86 H86 xs
theorem E86 (C : CallOp) (Lp : LoopOp) (xs : List AV) : sh86 C Lp xs = evalFn Tryz.prog C Lp Tryz.f86 H86 xs := by
  rw [← evalFnA_eq]; unfold sh86; split
  · exact (L86 C Lp).symm
  · rfl
noncomputable def sh87 : ShFn := fun C Lp xs => match xs with
  | [a0] => F87 C Lp a0
  | xs => evalFnA Tryz.prog C Lp Tryz.f87 H87 xs
theorem E87 (C : CallOp) (Lp : LoopOp) (xs : List AV) : sh87 C Lp xs = evalFn Tryz.prog C Lp Tryz.f87 H87 xs := by
  rw [← evalFnA_eq]; unfold sh87; split
  · exact (L87 C Lp _).symm
  · rfl
noncomputable def sh88 : ShFn := fun C Lp xs => match xs with
  | [a0, a1, a2, a3] => F88 C Lp a0 a1 a2 a3
  | xs => evalFnA Tryz.prog C Lp Tryz.f88 H88 xs
theorem E88 (C : CallOp) (Lp : LoopOp) (xs : List AV) : sh88 C Lp xs = evalFn Tryz.prog C Lp Tryz.f88 H88 xs := by
  rw [← evalFnA_eq]; unfold sh88; split
  · exact (L88 C Lp _ _ _ _).symm
  · rfl
noncomputable def sh89 : ShFn := fun C Lp xs => match xs with
  | [a0] => F89 C Lp a0
  | xs => evalFnA Tryz.prog C Lp Tryz.f89 H89 xs
theorem E89 (C : CallOp) (Lp : LoopOp) (xs : List AV) : sh89 C Lp xs = evalFn Tryz.prog C Lp Tryz.f89 H89 xs := by
  rw [← evalFnA_eq]; unfold sh89; split
  · exact (L89 C Lp _).symm
  · rfl
noncomputable def sh90 : ShFn := fun C Lp xs => match xs with
  | [a0] => F90 C Lp a0
  | xs => evalFnA Tryz.prog C Lp Tryz.f90 H90 xs
theorem E90 (C : CallOp) (Lp : LoopOp) (xs : List AV) : sh90 C Lp xs = evalFn Tryz.prog C Lp Tryz.f90 H90 xs := by
  rw [← evalFnA_eq]; unfold sh90; split
  · exact (L90 C Lp _).symm
  · rfl
noncomputable def sh91 : ShFn := fun C Lp xs => match xs with
  | [a0] => F91 C Lp a0
  | xs => evalFnA Tryz.prog C Lp Tryz.f91 H91 xs
theorem E91 (C : CallOp) (Lp : LoopOp) (xs : List AV) : sh91 C Lp xs = evalFn Tryz.prog C Lp Tryz.f91 H91 xs := by
  rw [← evalFnA_eq]; unfold sh91; split
  · exact (L91 C Lp _).symm
  · rfl
noncomputable def sh92 : ShFn := fun C Lp xs => match xs with
  | [a0, a1, a2, a3] => F92 C Lp a0 a1 a2 a3
  | xs => evalFnA Tryz.prog C Lp Tryz.f92 H92 xs
theorem E92 (C : CallOp) (Lp : LoopOp) (xs : List AV) : sh92 C Lp xs = evalFn Tryz.prog C Lp Tryz.f92 H92 xs := by
  rw [← evalFnA_eq]; unfold sh92; split
  · exact (L92 C Lp _ _ _ _).symm
  · rfl
noncomputable def sh93 : ShFn := fun C Lp xs => match xs with
  | [a0] => F93 C Lp a0
  | xs => evalFnA Tryz.prog C Lp Tryz.f93 H93 xs
theorem E93 (C : CallOp) (Lp : LoopOp) (xs : List AV) : sh93 C Lp xs = evalFn Tryz.prog C Lp Tryz.f93 H93 xs := by
  rw [← evalFnA_eq]; unfold sh93; split
  · exact (L93 C Lp _).symm
  · rfl
noncomputable def sh94 : ShFn := fun C Lp xs => match xs with
  | [a0] => F94 C Lp a0
  | xs => evalFnA Tryz.prog C Lp Tryz.f94 H94 xs
theorem E94 (C : CallOp) (Lp : LoopOp) (xs : List AV) : sh94 C Lp xs = evalFn Tryz.prog C Lp Tryz.f94 H94 xs := by
  rw [← evalFnA_eq]; unfold sh94; split
  · exact (L94 C Lp _).symm
  · rfl
noncomputable def sh95 : ShFn := fun C Lp xs => match xs with
  | [a0, a1] => F95 C Lp a0 a1
  | xs => evalFnA Tryz.prog C Lp Tryz.f95 H95 xs
theorem E95 (C : CallOp) (Lp : LoopOp) (xs : List AV) : sh95 C Lp xs = evalFn Tryz.prog C Lp Tryz.f95 H95 xs := by
  rw [← evalFnA_eq]; unfold sh95; split
  · exact (L95 C Lp _ _).symm
  · rfl
noncomputable def sh96 : ShFn := fun C Lp xs => match xs with
  | [a0] => F96 C Lp a0
  | xs => evalFnA Tryz.prog C Lp Tryz.f96 H96 xs
theorem E96 (C : CallOp) (Lp : LoopOp) (xs : List AV) : sh96 C Lp xs = evalFn Tryz.prog C Lp Tryz.f96 H96 xs := by
  rw [← evalFnA_eq]; unfold sh96; split
  · exact (L96 C Lp _).symm
  · rfl
noncomputable def sh97 : ShFn := fun C Lp xs => match xs with
  | [a0] => F97 C Lp a0
  | xs => evalFnA Tryz.prog C Lp Tryz.f97 H97 xs
theorem E97 (C : CallOp) (Lp : LoopOp) (xs : List AV) : sh97 C Lp xs = evalFn Tryz.prog C Lp Tryz.f97 H97 xs := by
  rw [← evalFnA_eq]; unfold sh97; split
  · exact (L97 C Lp _).symm
  · rfl
noncomputable def sh98 : ShFn := fun C Lp xs => match xs with
  | [a0] => F98 C Lp a0
  | xs => evalFnA Tryz.prog C Lp Tryz.f98 H98 xs
theorem E98 (C : CallOp) (Lp : LoopOp) (xs : List AV) : sh98 C Lp xs = evalFn Tryz.prog C Lp Tryz.f98 H98 xs := by
  rw [← evalFnA_eq]; unfold sh98; split
  · exact (L98 C Lp _).symm
  · rfl
noncomputable def sh110 : ShFn := fun C Lp xs => match xs with
  | [a0, a1, a2, a3] => F110 C Lp a0 a1 a2 a3
  | xs => evalFnA Tryz.prog C Lp Tryz.f110 H110 xs
theorem E110 (C : CallOp) (Lp : LoopOp) (xs : List AV) : sh110 C Lp xs = evalFn Tryz.prog C Lp Tryz.f110 H110 xs := by
  rw [← evalFnA_eq]; unfold sh110; split
  · exact (L110 C Lp _ _ _ _).symm
  · rfl
noncomputable def sh111 : ShFn := fun C Lp xs => match xs with
  | [a0, a1] => F111 C Lp a0 a1
  | xs => evalFnA Tryz.prog C Lp Tryz.f111 H111 xs
theorem E111 (C : CallOp) (Lp : LoopOp) (xs : List AV) : sh111 C Lp xs = evalFn Tryz.prog C Lp Tryz.f111 H111 xs := by
  rw [← evalFnA_eq]; unfold sh111; split
  · exact (L111 C Lp _ _).symm
  · rfl
noncomputable def sh112 : ShFn := fun C Lp xs => match xs with
  | [a0] => F112 C Lp a0
  | xs => evalFnA Tryz.prog C Lp Tryz.f112 H112 xs
theorem E112 (C : CallOp) (Lp : LoopOp) (xs : List AV) : sh112 C Lp xs = evalFn Tryz.prog C Lp Tryz.f112 H112 xs := by
  rw [← evalFnA_eq]; unfold sh112; split
  · exact (L112 C Lp _).symm
  · rfl
noncomputable def sh113 : ShFn := fun C Lp xs => match xs with
  | [a0] => F113 C Lp a0
  | xs => evalFnA Tryz.prog C Lp Tryz.f113 H113 xs
theorem E113 (C : CallOp) (Lp : LoopOp) (xs : List AV) : sh113 C Lp xs = evalFn Tryz.prog C Lp Tryz.f113 H113 xs := by
  rw [← evalFnA_eq]; unfold sh113; split
  · exact (L113 C Lp _).symm
  · rfl
noncomputable def sh114 : ShFn := fun C Lp xs => match xs with
  | [a0] => F114 C Lp a0
  | xs => evalFnA Tryz.prog C Lp Tryz.f114 H114 xs
theorem E114 (C : CallOp) (Lp : LoopOp) (xs : List AV) : sh114 C Lp xs = evalFn Tryz.prog C Lp Tryz.f114 H114 xs := by
  rw [← evalFnA_eq]; unfold sh114; split
  · exact (L114 C Lp _).symm
  · rfl
noncomputable def sh115 : ShFn := fun C Lp xs => match xs with
  | [a0] => F115 C Lp a0
  | xs => evalFnA Tryz.prog C Lp Tryz.f115 H115 xs
theorem E115 (C : CallOp) (Lp : LoopOp) (xs : List AV) : sh115 C Lp xs = evalFn Tryz.prog C Lp Tryz.f115 H115 xs := by
  rw [← evalFnA_eq]; unfold sh115; split
  · exact (L115 C Lp _).symm
  · rfl
noncomputable def sh116 : ShFn := fun C Lp xs => match xs with
  | [a0] => F116 C Lp a0
  | xs => evalFnA Tryz.prog C Lp Tryz.f116 H116 xs
theorem E116 (C : CallOp) (Lp : LoopOp) (xs : List AV) : sh116 C Lp xs = evalFn Tryz.prog C Lp Tryz.f116 H116 xs := by
  rw [← evalFnA_eq]; unfold sh116; split
  · exact (L116 C Lp _).symm
  · rfl
noncomputable def sh117 : ShFn := fun C Lp xs => match xs with
  | [] => F117 C Lp
  | xs => evalFnA Tryz.prog C Lp Tryz.f117 H117 xs
theorem E117 (C : CallOp) (Lp : LoopOp) (xs : List AV) : sh117 C Lp xs = evalFn Tryz.prog C Lp Tryz.f117 H117 xs := by
  rw [← evalFnA_eq]; unfold sh117; split
  · exact (L117 C Lp).symm
  · rfl
noncomputable def sh118 : ShFn := fun C Lp xs => match xs with
  | [a0] => F118 C Lp a0
  | xs => evalFnA Tryz.prog C Lp Tryz.f118 H118 xs
theorem E118 (C : CallOp) (Lp : LoopOp) (xs : List AV) : sh118 C Lp xs = evalFn Tryz.prog C Lp Tryz.f118 H118 xs := by
  rw [← evalFnA_eq]; unfold sh118; split
  · exact (L118 C Lp _).symm
  · rfl
noncomputable def sh119 : ShFn := fun C Lp xs => match xs with
  | [a0, a1] => F119 C Lp a0 a1
  | xs => evalFnA Tryz.prog C Lp Tryz.f119 H119 xs
theorem E119 (C : CallOp) (Lp : LoopOp) (xs : List AV) : sh119 C Lp xs = evalFn Tryz.prog C Lp Tryz.f119 H119 xs := by
  rw [← evalFnA_eq]; unfold sh119; split
  · exact (L119 C Lp _ _).symm
  · rfl
noncomputable def sh120 : ShFn := fun C Lp xs => match xs with
  | [a0] => F120 C Lp a0
  | xs => evalFnA Tryz.prog C Lp Tryz.f120 H120 xs
theorem E120 (C : CallOp) (Lp : LoopOp) (xs : List AV) : sh120 C Lp xs = evalFn Tryz.prog C Lp Tryz.f120 H120 xs := by
  rw [← evalFnA_eq]; unfold sh120; split
  · exact (L120 C Lp _).symm
  · rfl
noncomputable def sh121 : ShFn := fun C Lp xs => match xs with
  | [a0] => F121 C Lp a0
  | xs => evalFnA Tryz.prog C Lp Tryz.f121 H121 xs
theorem E121 (C : CallOp) (Lp : LoopOp) (xs : List AV) : sh121 C Lp xs = evalFn Tryz.prog C Lp Tryz.f121 H121 xs := by
  rw [← evalFnA_eq]; unfold sh121; split
  · exact (L121 C Lp _).symm
  · rfl
noncomputable def sh122 : ShFn := fun C Lp xs => match xs with
  | [a0, a1] => F122 C Lp a0 a1
  | xs => evalFnA Tryz.prog C Lp Tryz.f122 H122 xs
theorem E122 (C : CallOp) (Lp : LoopOp) (xs : List AV) : sh122 C Lp xs = evalFn Tryz.prog C Lp Tryz.f122 H122 xs := by
  rw [← evalFnA_eq]; unfold sh122; split
  · exact (L122 C Lp _ _).symm
  · rfl
noncomputable def sh123 : ShFn := fun C Lp xs => match xs with
  | [a0, a1] => F123 C Lp a0 a1
  | xs => evalFnA Tryz.prog C Lp Tryz.f123 H123 xs
theorem E123 (C : CallOp) (Lp : LoopOp) (xs : List AV) : sh123 C Lp xs = evalFn Tryz.prog C Lp Tryz.f123 H123 xs := by
  rw [← evalFnA_eq]; unfold sh123; split
  · exact (L123 C Lp _ _).symm
  · rfl
noncomputable def sh124 : ShFn := fun C Lp xs => match xs with
  | [a0] => F124 C Lp a0
  | xs => evalFnA Tryz.prog C Lp Tryz.f124 H124 xs
theorem E124 (C : CallOp) (Lp : LoopOp) (xs : List AV) : sh124 C Lp xs = evalFn Tryz.prog C Lp Tryz.f124 H124 xs := by
  rw [← evalFnA_eq]; unfold sh124; split
  · exact (L124 C Lp _).symm
  · rfl
noncomputable def sh125 : ShFn := fun C Lp xs => match xs with
  | [a0] => F125 C Lp a0
  | xs => evalFnA Tryz.prog C Lp Tryz.f125 H125 xs
theorem E125 (C : CallOp) (Lp : LoopOp) (xs : List AV) : sh125 C Lp xs = evalFn Tryz.prog C Lp Tryz.f125 H125 xs := by
  rw [← evalFnA_eq]; unfold sh125; split
  · exact (L125 C Lp _).symm
  · rfl
noncomputable def sh127 : ShFn := fun C Lp xs => match xs with
  | [a0, a1] => F127 C Lp a0 a1
  | xs => evalFnA Tryz.prog C Lp Tryz.f127 H127 xs
theorem E127 (C : CallOp) (Lp : LoopOp) (xs : List AV) : sh127 C Lp xs = evalFn Tryz.prog C Lp Tryz.f127 H127 xs := by
  rw [← evalFnA_eq]; unfold sh127; split
  · exact (L127 C Lp _ _).symm
  · rfl
noncomputable def sh128 : ShFn := fun C Lp xs => match xs with
  | [a0] => F128 C Lp a0
  | xs => evalFnA Tryz.prog C Lp Tryz.f128 H128 xs
theorem E128 (C : CallOp) (Lp : LoopOp) (xs : List AV) : sh128 C Lp xs = evalFn Tryz.prog C Lp Tryz.f128 H128 xs := by
  rw [← evalFnA_eq]; unfold sh128; split
  · exact (L128 C Lp _).symm
  · rfl
noncomputable def sh129 : ShFn := fun C Lp xs => match xs with
  | [a0] => F129 C Lp a0
  | xs => evalFnA Tryz.prog C Lp Tryz.f129 H129 xs
theorem E129 (C : CallOp) (Lp : LoopOp) (xs : List AV) : sh129 C Lp xs = evalFn Tryz.prog C Lp Tryz.f129 H129 xs := by
  rw [← evalFnA_eq]; unfold sh129; split
  · exact (L129 C Lp _).symm
  · rfl
noncomputable def sh130 : ShFn := fun C Lp xs => match xs with
  | [a0] => F130 C Lp a0
  | xs => evalFnA Tryz.prog C Lp Tryz.f130 H130 xs
theorem E130 (C : CallOp) (Lp : LoopOp) (xs : List AV) : sh130 C Lp xs = evalFn Tryz.prog C Lp Tryz.f130 H130 xs := by
  rw [← evalFnA_eq]; unfold sh130; split
  · exact (L130 C Lp _).symm
  · rfl
noncomputable def sh131 : ShFn := fun C Lp xs => match xs with
  | [a0] => F131 C Lp a0
  | xs => evalFnA Tryz.prog C Lp Tryz.f131 H131 xs
theorem E131 (C : CallOp) (Lp : LoopOp) (xs : List AV) : sh131 C Lp xs = evalFn Tryz.prog C Lp Tryz.f131 H131 xs := by
  rw [← evalFnA_eq]; unfold sh131; split
  · exact (L131 C Lp _).symm
  · rfl
noncomputable def sh132 : ShFn := fun C Lp xs => match xs with
  | [a0] => F132 C Lp a0
  | xs => evalFnA Tryz.prog C Lp Tryz.f132 H132 xs
theorem E132 (C : CallOp) (Lp : LoopOp) (xs : List AV) : sh132 C Lp xs = evalFn Tryz.prog C Lp Tryz.f132 H132 xs := by
  rw [← evalFnA_eq]; unfold sh132; split
  · exact (L132 C Lp _).symm
  · rfl
noncomputable def sh133 : ShFn := fun C Lp xs => match xs with
  | [a0] => F133 C Lp a0
  | xs => evalFnA Tryz.prog C Lp Tryz.f133 H133 xs
theorem E133 (C : CallOp) (Lp : LoopOp) (xs : List AV) : sh133 C Lp xs = evalFn Tryz.prog C Lp Tryz.f133 H133 xs := by
  rw [← evalFnA_eq]; unfold sh133; split
  · exact (L133 C Lp _).symm
  · rfl
noncomputable def sh135 : ShFn := fun C Lp xs => match xs with
  | [a0, a1, a2] => F135 C Lp a0 a1 a2
  | xs => evalFnA Tryz.prog C Lp Tryz.f135 H135 xs
theorem E135 (C : CallOp) (Lp : LoopOp) (xs : List AV) : sh135 C Lp xs = evalFn Tryz.prog C Lp Tryz.f135 H135 xs := by
  rw [← evalFnA_eq]; unfold sh135; split
  · exact (L135 C Lp _ _ _).symm
  · rfl
noncomputable def sh136 : ShFn := fun C Lp xs => match xs with
  | [a0] => F136 C Lp a0
  | xs => evalFnA Tryz.prog C Lp Tryz.f136 H136 xs
theorem E136 (C : CallOp) (Lp : LoopOp) (xs : List AV) : sh136 C Lp xs = evalFn Tryz.prog C Lp Tryz.f136 H136 xs := by
  rw [← evalFnA_eq]; unfold sh136; split
  · exact (L136 C Lp _).symm
  · rfl
noncomputable def sh137 : ShFn := fun C Lp xs => match xs with
  | [a0, a1] => F137 C Lp a0 a1
  | xs => evalFnA Tryz.prog C Lp Tryz.f137 H137 xs
theorem E137 (C : CallOp) (Lp : LoopOp) (xs : List AV) : sh137 C Lp xs = evalFn Tryz.prog C Lp Tryz.f137 H137 xs := by
  rw [← evalFnA_eq]; unfold sh137; split
  · exact (L137 C Lp _ _).symm
  · rfl
noncomputable def sh138 : ShFn := fun C Lp xs => match xs with
  | [a0, a1] => F138 C Lp a0 a1
  | xs => evalFnA Tryz.prog C Lp Tryz.f138 H138 xs
theorem E138 (C : CallOp) (Lp : LoopOp) (xs : List AV) : sh138 C Lp xs = evalFn Tryz.prog C Lp Tryz.f138 H138 xs := by
  rw [← evalFnA_eq]; unfold sh138; split
  · exact (L138 C Lp _ _).symm
  · rfl
noncomputable def sh139 : ShFn := fun C Lp xs => match xs with
  | [a0, a1] => F139 C Lp a0 a1
  | xs => evalFnA Tryz.prog C Lp Tryz.f139 H139 xs
theorem E139 (C : CallOp) (Lp : LoopOp) (xs : List AV) : sh139 C Lp xs = evalFn Tryz.prog C Lp Tryz.f139 H139 xs := by
  rw [← evalFnA_eq]; unfold sh139; split
  · exact (L139 C Lp _ _).symm
  · rfl
noncomputable def sh140 : ShFn := fun C Lp xs => match xs with
  | [a0] => F140 C Lp a0
  | xs => evalFnA Tryz.prog C Lp Tryz.f140 H140 xs
theorem E140 (C : CallOp) (Lp : LoopOp) (xs : List AV) : sh140 C Lp xs = evalFn Tryz.prog C Lp Tryz.f140 H140 xs := by
  rw [← evalFnA_eq]; unfold sh140; split
  · exact (L140 C Lp _).symm
  · rfl
noncomputable def sh141 : ShFn := fun C Lp xs => match xs with
  | [a0, a1] => F141 C Lp a0 a1
  | xs => evalFnA Tryz.prog C Lp Tryz.f141 H141 xs
theorem E141 (C : CallOp) (Lp : LoopOp) (xs : List AV) : sh141 C Lp xs = evalFn Tryz.prog C Lp Tryz.f141 H141 xs := by
  rw [← evalFnA_eq]; unfold sh141; split
  · exact (L141 C Lp _ _).symm
  · rfl
noncomputable def sh143 : ShFn := fun C Lp xs => match xs with
  | [a0] => F143 C Lp a0
  | xs => evalFnA Tryz.prog C Lp Tryz.f143 H143 xs
theorem E143 (C : CallOp) (Lp : LoopOp) (xs : List AV) : sh143 C Lp xs = evalFn Tryz.prog C Lp Tryz.f143 H143 xs := by
  rw [← evalFnA_eq]; unfold sh143; split
  · exact (L143 C Lp _).symm
  · rfl
noncomputable def sh160 : ShFn := fun C Lp xs => match xs with
  | [a0] => F160 C Lp a0
  | xs => evalFnA Tryz.prog C Lp Tryz.f160 H160 xs
theorem E160 (C : CallOp) (Lp : LoopOp) (xs : List AV) : sh160 C Lp xs = evalFn Tryz.prog C Lp Tryz.f160 H160 xs := by
  rw [← evalFnA_eq]; unfold sh160; split
  · exact (L160 C Lp _).symm
  · rfl
noncomputable def sh161 : ShFn := fun C Lp xs => match xs with
  | [a0, a1] => F161 C Lp a0 a1
  | xs => evalFnA Tryz.prog C Lp Tryz.f161 H161 xs
theorem E161 (C : CallOp) (Lp : LoopOp) (xs : List AV) : sh161 C Lp xs = evalFn Tryz.prog C Lp Tryz.f161 H161 xs := by
  rw [← evalFnA_eq]; unfold sh161; split
  · exact (L161 C Lp _ _).symm
  · rfl
noncomputable def sh164 : ShFn := fun C Lp xs => match xs with
  | [a0, a1] => F164 C Lp a0 a1
  | xs => evalFnA Tryz.prog C Lp Tryz.f164 H164 xs
theorem E164 (C : CallOp) (Lp : LoopOp) (xs : List AV) : sh164 C Lp xs = evalFn Tryz.prog C Lp Tryz.f164 H164 xs := by
  rw [← evalFnA_eq]; unfold sh164; split
  · exact (L164 C Lp _ _).symm
  · rfl
noncomputable def sh165 : ShFn := fun C Lp xs => match xs with
  | [a0] => F165 C Lp a0
  | xs => evalFnA Tryz.prog C Lp Tryz.f165 H165 xs
theorem E165 (C : CallOp) (Lp : LoopOp) (xs : List AV) : sh165 C Lp xs = evalFn Tryz.prog C Lp Tryz.f165 H165 xs := by
  rw [← evalFnA_eq]; unfold sh165; split
  · exact (L165 C Lp _).symm
  · rfl
noncomputable def sh166 : ShFn := fun C Lp xs => match xs with
  | [a0, a1, a2] => F166 C Lp a0 a1 a2
  | xs => evalFnA Tryz.prog C Lp Tryz.f166 H166 xs
theorem E166 (C : CallOp) (Lp : LoopOp) (xs : List AV) : sh166 C Lp xs = evalFn Tryz.prog C Lp Tryz.f166 H166 xs := by
  rw [← evalFnA_eq]; unfold sh166; split
  · exact (L166 C Lp _ _ _).symm
  · rfl
noncomputable def sh167 : ShFn := fun C Lp xs => match xs with
  | [a0] => F167 C Lp a0
  | xs => evalFnA Tryz.prog C Lp Tryz.f167 H167 xs
theorem E167 (C : CallOp) (Lp : LoopOp) (xs : List AV) : sh167 C Lp xs = evalFn Tryz.prog C Lp Tryz.f167 H167 xs := by
  rw [← evalFnA_eq]; unfold sh167; split
  · exact (L167 C Lp _).symm
  · rfl
noncomputable def sh168 : ShFn := fun C Lp xs => match xs with
  | [a0, a1] => F168 C Lp a0 a1
  | xs => evalFnA Tryz.prog C Lp Tryz.f168 H168 xs
theorem E168 (C : CallOp) (Lp : LoopOp) (xs : List AV) : sh168 C Lp xs = evalFn Tryz.prog C Lp Tryz.f168 H168 xs := by
  rw [← evalFnA_eq]; unfold sh168; split
  · exact (L168 C Lp _ _).symm
  · rfl
noncomputable def sh169 : ShFn := fun C Lp xs => match xs with
  | [a0, a1] => F169 C Lp a0 a1
  | xs => evalFnA Tryz.prog C Lp Tryz.f169 H169 xs
theorem E169 (C : CallOp) (Lp : LoopOp) (xs : List AV) : sh169 C Lp xs = evalFn Tryz.prog C Lp Tryz.f169 H169 xs := by
  rw [← evalFnA_eq]; unfold sh169; split
  · exact (L169 C Lp _ _).symm
  · rfl
noncomputable def sh170 : ShFn := fun C Lp xs => match xs with
  | [a0, a1] => F170 C Lp a0 a1
  | xs => evalFnA Tryz.prog C Lp Tryz.f170 H170 xs
theorem E170 (C : CallOp) (Lp : LoopOp) (xs : List AV) : sh170 C Lp xs = evalFn Tryz.prog C Lp Tryz.f170 H170 xs := by
  rw [← evalFnA_eq]; unfold sh170; split
  · exact (L170 C Lp _ _).symm
  · rfl
noncomputable def sh171 : ShFn := fun C Lp xs => match xs with
  | [a0] => F171 C Lp a0
  | xs => evalFnA Tryz.prog C Lp Tryz.f171 H171 xs
theorem E171 (C : CallOp) (Lp : LoopOp) (xs : List AV) : sh171 C Lp xs = evalFn Tryz.prog C Lp Tryz.f171 H171 xs := by
  rw [← evalFnA_eq]; unfold sh171; split
  · exact (L171 C Lp _).symm
  · rfl
noncomputable def sh172 : ShFn := fun C Lp xs => match xs with
  | [a0, a1] => F172 C Lp a0 a1
  | xs => evalFnA Tryz.prog C Lp Tryz.f172 H172 xs
theorem E172 (C : CallOp) (Lp : LoopOp) (xs : List AV) : sh172 C Lp xs = evalFn Tryz.prog C Lp Tryz.f172 H172 xs := by
  rw [← evalFnA_eq]; unfold sh172; split
  · exact (L172 C Lp _ _).symm
  · rfl
noncomputable def sh173 : ShFn := fun C Lp xs => match xs with
  | [a0, a1] => F173 C Lp a0 a1
  | xs => evalFnA Tryz.prog C Lp Tryz.f173 H173 xs
theorem E173 (C : CallOp) (Lp : LoopOp) (xs : List AV) : sh173 C Lp xs = evalFn Tryz.prog C Lp Tryz.f173 H173 xs := by
  rw [← evalFnA_eq]; unfold sh173; split
  · exact (L173 C Lp _ _).symm
  · rfl
noncomputable def sh174 : ShFn := fun C Lp xs => match xs with
  | [a0, a1] => F174 C Lp a0 a1
  | xs => evalFnA Tryz.prog C Lp Tryz.f174 H174 xs
theorem E174 (C : CallOp) (Lp : LoopOp) (xs : List AV) : sh174 C Lp xs = evalFn Tryz.prog C Lp Tryz.f174 H174 xs := by
  rw [← evalFnA_eq]; unfold sh174; split
  · exact (L174 C Lp _ _).symm
  · rfl
noncomputable def sh175 : ShFn := fun C Lp xs => match xs with
  | [a0] => F175 C Lp a0
  | xs => evalFnA Tryz.prog C Lp Tryz.f175 H175 xs
theorem E175 (C : CallOp) (Lp : LoopOp) (xs : List AV) : sh175 C Lp xs = evalFn Tryz.prog C Lp Tryz.f175 H175 xs := by
  rw [← evalFnA_eq]; unfold sh175; split
  · exact (L175 C Lp _).symm
  · rfl
noncomputable def sh176 : ShFn := fun C Lp xs => match xs with
  | [a0] => F176 C Lp a0
  | xs => evalFnA Tryz.prog C Lp Tryz.f176 H176 xs
theorem E176 (C : CallOp) (Lp : LoopOp) (xs : List AV) : sh176 C Lp xs = evalFn Tryz.prog C Lp Tryz.f176 H176 xs := by
  rw [← evalFnA_eq]; unfold sh176; split
  · exact (L176 C Lp _).symm
  · rfl
noncomputable def sh177 : ShFn := fun C Lp xs => match xs with
  | [a0, a1] => F177 C Lp a0 a1
  | xs => evalFnA Tryz.prog C Lp Tryz.f177 H177 xs
theorem E177 (C : CallOp) (Lp : LoopOp) (xs : List AV) : sh177 C Lp xs = evalFn Tryz.prog C Lp Tryz.f177 H177 xs := by
  rw [← evalFnA_eq]; unfold sh177; split
  · exact (L177 C Lp _ _).symm
  · rfl
noncomputable def sh178 : ShFn := fun C Lp xs => match xs with
  | [a0, a1] => F178 C Lp a0 a1
  | xs => evalFnA Tryz.prog C Lp Tryz.f178 H178 xs
theorem E178 (C : CallOp) (Lp : LoopOp) (xs : List AV) : sh178 C Lp xs = evalFn Tryz.prog C Lp Tryz.f178 H178 xs := by
  rw [← evalFnA_eq]; unfold sh178; split
  · exact (L178 C Lp _ _).symm
  · rfl
noncomputable def sh179 : ShFn := fun C Lp xs => match xs with
  | [a0] => F179 C Lp a0
  | xs => evalFnA Tryz.prog C Lp Tryz.f179 H179 xs
theorem E179 (C : CallOp) (Lp : LoopOp) (xs : List AV) : sh179 C Lp xs = evalFn Tryz.prog C Lp Tryz.f179 H179 xs := by
  rw [← evalFnA_eq]; unfold sh179; split
  · exact (L179 C Lp _).symm
  · rfl
noncomputable def sh180 : ShFn := fun C Lp xs => match xs with
  | [a0, a1] => F180 C Lp a0 a1
  | xs => evalFnA Tryz.prog C Lp Tryz.f180 H180 xs
theorem E180 (C : CallOp) (Lp : LoopOp) (xs : List AV) : sh180 C Lp xs = evalFn Tryz.prog C Lp Tryz.f180 H180 xs := by
  rw [← evalFnA_eq]; unfold sh180; split
  · exact (L180 C Lp _ _).symm
  · rfl
noncomputable def sh181 : ShFn := fun C Lp xs => match xs with
  | [a0] => F181 C Lp a0
  | xs => evalFnA Tryz.prog C Lp Tryz.f181 H181 xs
theorem E181 (C : CallOp) (Lp : LoopOp) (xs : List AV) : sh181 C Lp xs = evalFn Tryz.prog C Lp Tryz.f181 H181 xs := by
  rw [← evalFnA_eq]; unfold sh181; split
  · exact (L181 C Lp _).symm
  · rfl
noncomputable def sh182 : ShFn := fun C Lp xs => match xs with
  | [a0] => F182 C Lp a0
  | xs => evalFnA Tryz.prog C Lp Tryz.f182 H182 xs
theorem E182 (C : CallOp) (Lp : LoopOp) (xs : List AV) : sh182 C Lp xs = evalFn Tryz.prog C Lp Tryz.f182 H182 xs := by
  rw [← evalFnA_eq]; unfold sh182; split
  · exact (L182 C Lp _).symm
  · rfl
noncomputable def sh183 : ShFn := fun C Lp xs => match xs with
  | [a0] => F183 C Lp a0
  | xs => evalFnA Tryz.prog C Lp Tryz.f183 H183 xs
theorem E183 (C : CallOp) (Lp : LoopOp) (xs : List AV) : sh183 C Lp xs = evalFn Tryz.prog C Lp Tryz.f183 H183 xs := by
  rw [← evalFnA_eq]; unfold sh183; split
  · exact (L183 C Lp _).symm
  · rfl
noncomputable def sh185 : ShFn := fun C Lp xs => match xs with
  | [a0, a1, a2] => F185 C Lp a0 a1 a2
  | xs => evalFnA Tryz.prog C Lp Tryz.f185 H185 xs
theorem E185 (C : CallOp) (Lp : LoopOp) (xs : List AV) : sh185 C Lp xs = evalFn Tryz.prog C Lp Tryz.f185 H185 xs := by
  rw [← evalFnA_eq]; unfold sh185; split
  · exact (L185 C Lp _ _ _).symm
  · rfl
noncomputable def sh187 : ShFn := fun C Lp xs => match xs with
  | [a0, a1] => F187 C Lp a0 a1
  | xs => evalFnA Tryz.prog C Lp Tryz.f187 H187 xs
theorem E187 (C : CallOp) (Lp : LoopOp) (xs : List AV) : sh187 C Lp xs = evalFn Tryz.prog C Lp Tryz.f187 H187 xs := by
  rw [← evalFnA_eq]; unfold sh187; split
  · exact (L187 C Lp _ _).symm
  · rfl
noncomputable def sh188 : ShFn := fun C Lp xs => match xs with
  | [a0, a1] => F188 C Lp a0 a1
  | xs => evalFnA Tryz.prog C Lp Tryz.f188 H188 xs
theorem E188 (C : CallOp) (Lp : LoopOp) (xs : List AV) : sh188 C Lp xs = evalFn Tryz.prog C Lp Tryz.f188 H188 xs := by
  rw [← evalFnA_eq]; unfold sh188; split
  · exact (L188 C Lp _ _).symm
  · rfl
noncomputable def sh197 : ShFn := fun C Lp xs => match xs with
  | [a0, a1] => F197 C Lp a0 a1
  | xs => evalFnA Tryz.prog C Lp Tryz.f197 H197 xs
theorem E197 (C : CallOp) (Lp : LoopOp) (xs : List AV) : sh197 C Lp xs = evalFn Tryz.prog C Lp Tryz.f197 H197 xs := by
  rw [← evalFnA_eq]; unfold sh197; split
  · exact (L197 C Lp _ _).symm
  · rfl
noncomputable def sh198 : ShFn := fun C Lp xs => match xs with
  | [a0] => F198 C Lp a0
  | xs => evalFnA Tryz.prog C Lp Tryz.f198 H198 xs
theorem E198 (C : CallOp) (Lp : LoopOp) (xs : List AV) : sh198 C Lp xs = evalFn Tryz.prog C Lp Tryz.f198 H198 xs := by
  rw [← evalFnA_eq]; unfold sh198; split
  · exact (L198 C Lp _).symm
  · rfl
noncomputable def sh201 : ShFn := fun C Lp xs => match xs with
  | [a0, a1] => F201 C Lp a0 a1
  | xs => evalFnA Tryz.prog C Lp Tryz.f201 H201 xs
theorem E201 (C : CallOp) (Lp : LoopOp) (xs : List AV) : sh201 C Lp xs = evalFn Tryz.prog C Lp Tryz.f201 H201 xs := by
  rw [← evalFnA_eq]; unfold sh201; split
  · exact (L201 C Lp _ _).symm
  · rfl
noncomputable def sh203 : ShFn := fun C Lp xs => match xs with
  | [a0] => F203 C Lp a0
  | xs => evalFnA Tryz.prog C Lp Tryz.f203 H203 xs
theorem E203 (C : CallOp) (Lp : LoopOp) (xs : List AV) : sh203 C Lp xs = evalFn Tryz.prog C Lp Tryz.f203 H203 xs := by
  rw [← evalFnA_eq]; unfold sh203; split
  · exact (L203 C Lp _).symm
  · rfl
noncomputable def sh204 : ShFn := fun C Lp xs => match xs with
  | [a0, a1, a2, a3] => F204 C Lp a0 a1 a2 a3
  | xs => evalFnA Tryz.prog C Lp Tryz.f204 H204 xs
theorem E204 (C : CallOp) (Lp : LoopOp) (xs : List AV) : sh204 C Lp xs = evalFn Tryz.prog C Lp Tryz.f204 H204 xs := by
  rw [← evalFnA_eq]; unfold sh204; split
  · exact (L204 C Lp _ _ _ _).symm
  · rfl
noncomputable def sh207 : ShFn := fun C Lp xs => match xs with
  | [a0] => F207 C Lp a0
  | xs => evalFnA Tryz.prog C Lp Tryz.f207 H207 xs
theorem E207 (C : CallOp) (Lp : LoopOp) (xs : List AV) : sh207 C Lp xs = evalFn Tryz.prog C Lp Tryz.f207 H207 xs := by
  rw [← evalFnA_eq]; unfold sh207; split
  · exact (L207 C Lp _).symm
  · rfl
noncomputable def sh208 : ShFn := fun C Lp xs => match xs with
  | [a0, a1] => F208 C Lp a0 a1
  | xs => evalFnA Tryz.prog C Lp Tryz.f208 H208 xs
theorem E208 (C : CallOp) (Lp : LoopOp) (xs : List AV) : sh208 C Lp xs = evalFn Tryz.prog C Lp Tryz.f208 H208 xs := by
  rw [← evalFnA_eq]; unfold sh208; split
  · exact (L208 C Lp _ _).symm
  · rfl
noncomputable def sh209 : ShFn := fun C Lp xs => match xs with
  | [a0, a1] => F209 C Lp a0 a1
  | xs => evalFnA Tryz.prog C Lp Tryz.f209 H209 xs
theorem E209 (C : CallOp) (Lp : LoopOp) (xs : List AV) : sh209 C Lp xs = evalFn Tryz.prog C Lp Tryz.f209 H209 xs := by
  rw [← evalFnA_eq]; unfold sh209; split
  · exact (L209 C Lp _ _).symm
  · rfl
noncomputable def sh212 : ShFn := fun C Lp xs => match xs with
  | [a0] => F212 C Lp a0
  | xs => evalFnA Tryz.prog C Lp Tryz.f212 H212 xs
theorem E212 (C : CallOp) (Lp : LoopOp) (xs : List AV) : sh212 C Lp xs = evalFn Tryz.prog C Lp Tryz.f212 H212 xs := by
  rw [← evalFnA_eq]; unfold sh212; split
  · exact (L212 C Lp _).symm
  · rfl
noncomputable def sh213 : ShFn := fun C Lp xs => match xs with
  | [a0, a1] => F213 C Lp a0 a1
  | xs => evalFnA Tryz.prog C Lp Tryz.f213 H213 xs
theorem E213 (C : CallOp) (Lp : LoopOp) (xs : List AV) : sh213 C Lp xs = evalFn Tryz.prog C Lp Tryz.f213 H213 xs := by
  rw [← evalFnA_eq]; unfold sh213; split
  · exact (L213 C Lp _ _).symm
  · rfl
noncomputable def sh214 : ShFn := fun C Lp xs => match xs with
  | [a0] => F214 C Lp a0
  | xs => evalFnA Tryz.prog C Lp Tryz.f214 H214 xs
theorem E214 (C : CallOp) (Lp : LoopOp) (xs : List AV) : sh214 C Lp xs = evalFn Tryz.prog C Lp Tryz.f214 H214 xs := by
  rw [← evalFnA_eq]; unfold sh214; split
  · exact (L214 C Lp _).symm
  · rfl
noncomputable def sh216 : ShFn := fun C Lp xs => match xs with
  | [a0, a1] => F216 C Lp a0 a1
  | xs => evalFnA Tryz.prog C Lp Tryz.f216 H216 xs
theorem E216 (C : CallOp) (Lp : LoopOp) (xs : List AV) : sh216 C Lp xs = evalFn Tryz.prog C Lp Tryz.f216 H216 xs := by
  rw [← evalFnA_eq]; unfold sh216; split
  · exact (L216 C Lp _ _).symm
  · rfl
noncomputable def sh219 : ShFn := fun C Lp xs => match xs with
  | [a0, a1] => F219 C Lp a0 a1
  | xs => evalFnA Tryz.prog C Lp Tryz.f219 H219 xs
theorem E219 (C : CallOp) (Lp : LoopOp) (xs : List AV) : sh219 C Lp xs = evalFn Tryz.prog C Lp Tryz.f219 H219 xs := by
  rw [← evalFnA_eq]; unfold sh219; split
  · exact (L219 C Lp _ _).symm
  · rfl
noncomputable def sh220 : ShFn := fun C Lp xs => match xs with
  | [a0] => F220 C Lp a0
  | xs => evalFnA Tryz.prog C Lp Tryz.f220 H220 xs
theorem E220 (C : CallOp) (Lp : LoopOp) (xs : List AV) : sh220 C Lp xs = evalFn Tryz.prog C Lp Tryz.f220 H220 xs := by
  rw [← evalFnA_eq]; unfold sh220; split
  · exact (L220 C Lp _).symm
  · rfl
noncomputable def sh221 : ShFn := fun C Lp xs => match xs with
  | [a0, a1] => F221 C Lp a0 a1
  | xs => evalFnA Tryz.prog C Lp Tryz.f221 H221 xs
theorem E221 (C : CallOp) (Lp : LoopOp) (xs : List AV) : sh221 C Lp xs = evalFn Tryz.prog C Lp Tryz.f221 H221 xs := by
  rw [← evalFnA_eq]; unfold sh221; split
  · exact (L221 C Lp _ _).symm
  · rfl
noncomputable def sh222 : ShFn := fun C Lp xs => match xs with
  | [a0, a1] => F222 C Lp a0 a1
  | xs => evalFnA Tryz.prog C Lp Tryz.f222 H222 xs
theorem E222 (C : CallOp) (Lp : LoopOp) (xs : List AV) : sh222 C Lp xs = evalFn Tryz.prog C Lp Tryz.f222 H222 xs := by
  rw [← evalFnA_eq]; unfold sh222; split
  · exact (L222 C Lp _ _).symm
  · rfl
noncomputable def sh225 : ShFn := fun C Lp xs => match xs with
  | [a0, a1] => F225 C Lp a0 a1
  | xs => evalFnA Tryz.prog C Lp Tryz.f225 H225 xs
theorem E225 (C : CallOp) (Lp : LoopOp) (xs : List AV) : sh225 C Lp xs = evalFn Tryz.prog C Lp Tryz.f225 H225 xs := by
  rw [← evalFnA_eq]; unfold sh225; split
  · exact (L225 C Lp _ _).symm
  · rfl
noncomputable def sh226 : ShFn := fun C Lp xs => match xs with
  | [a0, a1] => F226 C Lp a0 a1
  | xs => evalFnA Tryz.prog C Lp Tryz.f226 H226 xs
theorem E226 (C : CallOp) (Lp : LoopOp) (xs : List AV) : sh226 C Lp xs = evalFn Tryz.prog C Lp Tryz.f226 H226 xs := by
  rw [← evalFnA_eq]; unfold sh226; split
  · exact (L226 C Lp _ _).symm
  · rfl
noncomputable def sh232 : ShFn := fun C Lp xs => match xs with
  | [a0] => F232 C Lp a0
  | xs => evalFnA Tryz.prog C Lp Tryz.f232 H232 xs
theorem E232 (C : CallOp) (Lp : LoopOp) (xs : List AV) : sh232 C Lp xs = evalFn Tryz.prog C Lp Tryz.f232 H232 xs := by
  rw [← evalFnA_eq]; unfold sh232; split
  · exact (L232 C Lp _).symm
  · rfl
noncomputable def sh233 : ShFn := fun C Lp xs => match xs with
  | [a0, a1] => F233 C Lp a0 a1
  | xs => evalFnA Tryz.prog C Lp Tryz.f233 H233 xs
theorem E233 (C : CallOp) (Lp : LoopOp) (xs : List AV) : sh233 C Lp xs = evalFn Tryz.prog C Lp Tryz.f233 H233 xs := by
  rw [← evalFnA_eq]; unfold sh233; split
  · exact (L233 C Lp _ _).symm
  · rfl
noncomputable def sh237 : ShFn := fun C Lp xs => match xs with
  | [a0, a1] => F237 C Lp a0 a1
  | xs => evalFnA Tryz.prog C Lp Tryz.f237 H237 xs
theorem E237 (C : CallOp) (Lp : LoopOp) (xs : List AV) : sh237 C Lp xs = evalFn Tryz.prog C Lp Tryz.f237 H237 xs := by
  rw [← evalFnA_eq]; unfold sh237; split
  · exact (L237 C Lp _ _).symm
  · rfl
noncomputable def sh239 : ShFn := fun C Lp xs => match xs with
  | [a0, a1] => F239 C Lp a0 a1
  | xs => evalFnA Tryz.prog C Lp Tryz.f239 H239 xs
theorem E239 (C : CallOp) (Lp : LoopOp) (xs : List AV) : sh239 C Lp xs = evalFn Tryz.prog C Lp Tryz.f239 H239 xs := by
  rw [← evalFnA_eq]; unfold sh239; split
  · exact (L239 C Lp _ _).symm
  · rfl
noncomputable def sh240 : ShFn := fun C Lp xs => match xs with
  | [a0, a1] => F240 C Lp a0 a1
  | xs => evalFnA Tryz.prog C Lp Tryz.f240 H240 xs
theorem E240 (C : CallOp) (Lp : LoopOp) (xs : List AV) : sh240 C Lp xs = evalFn Tryz.prog C Lp Tryz.f240 H240 xs := by
  rw [← evalFnA_eq]; unfold sh240; split
  · exact (L240 C Lp _ _).symm
  · rfl
noncomputable def sh241 : ShFn := fun C Lp xs => match xs with
  | [a0, a1] => F241 C Lp a0 a1
  | xs => evalFnA Tryz.prog C Lp Tryz.f241 H241 xs
theorem E241 (C : CallOp) (Lp : LoopOp) (xs : List AV) : sh241 C Lp xs = evalFn Tryz.prog C Lp Tryz.f241 H241 xs := by
  rw [← evalFnA_eq]; unfold sh241; split
  · exact (L241 C Lp _ _).symm
  · rfl
noncomputable def sh247 : ShFn := fun C Lp xs => match xs with
  | [a0, a1] => F247 C Lp a0 a1
  | xs => evalFnA Tryz.prog C Lp Tryz.f247 H247 xs
theorem E247 (C : CallOp) (Lp : LoopOp) (xs : List AV) : sh247 C Lp xs = evalFn Tryz.prog C Lp Tryz.f247 H247 xs := by
  rw [← evalFnA_eq]; unfold sh247; split
  · exact (L247 C Lp _ _).symm
  · rfl
noncomputable def sh248 : ShFn := fun C Lp xs => match xs with
  | [a0] => F248 C Lp a0
  | xs => evalFnA Tryz.prog C Lp Tryz.f248 H248 xs
theorem E248 (C : CallOp) (Lp : LoopOp) (xs : List AV) : sh248 C Lp xs = evalFn Tryz.prog C Lp Tryz.f248 H248 xs := by
  rw [← evalFnA_eq]; unfold sh248; split
  · exact (L248 C Lp _).symm
  · rfl
noncomputable def sh255 : ShFn := fun C Lp xs => match xs with
  | [a0] => F255 C Lp a0
  | xs => evalFnA Tryz.prog C Lp Tryz.f255 H255 xs
theorem E255 (C : CallOp) (Lp : LoopOp) (xs : List AV) : sh255 C Lp xs = evalFn Tryz.prog C Lp Tryz.f255 H255 xs := by
  rw [← evalFnA_eq]; unfold sh255; split
  · exact (L255 C Lp _).symm
  · rfl
noncomputable def sh258 : ShFn := fun C Lp xs => match xs with
  | [a0] => F258 C Lp a0
  | xs => evalFnA Tryz.prog C Lp Tryz.f258 H258 xs
theorem E258 (C : CallOp) (Lp : LoopOp) (xs : List AV) : sh258 C Lp xs = evalFn Tryz.prog C Lp Tryz.f258 H258 xs := by
  rw [← evalFnA_eq]; unfold sh258; split
  · exact (L258 C Lp _).symm
  · rfl
noncomputable def sh259 : ShFn := fun C Lp xs => match xs with
  | [a0] => F259 C Lp a0
  | xs => evalFnA Tryz.prog C Lp Tryz.f259 H259 xs
theorem E259 (C : CallOp) (Lp : LoopOp) (xs : List AV) : sh259 C Lp xs = evalFn Tryz.prog C Lp Tryz.f259 H259 xs := by
  rw [← evalFnA_eq]; unfold sh259; split
  · exact (L259 C Lp _).symm
  · rfl
noncomputable def sh260 : ShFn := fun C Lp xs => match xs with
  | [a0, a1] => F260 C Lp a0 a1
  | xs => evalFnA Tryz.prog C Lp Tryz.f260 H260 xs
theorem E260 (C : CallOp) (Lp : LoopOp) (xs : List AV) : sh260 C Lp xs = evalFn Tryz.prog C Lp Tryz.f260 H260 xs := by
  rw [← evalFnA_eq]; unfold sh260; split
  · exact (L260 C Lp _ _).symm
  · rfl
noncomputable def sh264 : ShFn := fun C Lp xs => match xs with
  | [a0, a1] => F264 C Lp a0 a1
  | xs => evalFnA Tryz.prog C Lp Tryz.f264 H264 xs
theorem E264 (C : CallOp) (Lp : LoopOp) (xs : List AV) : sh264 C Lp xs = evalFn Tryz.prog C Lp Tryz.f264 H264 xs := by
  rw [← evalFnA_eq]; unfold sh264; split
  · exact (L264 C Lp _ _).symm
  · rfl
noncomputable def sh268 : ShFn := fun C Lp xs => match xs with
  | [a0, a1] => F268 C Lp a0 a1
  | xs => evalFnA Tryz.prog C Lp Tryz.f268 H268 xs
theorem E268 (C : CallOp) (Lp : LoopOp) (xs : List AV) : sh268 C Lp xs = evalFn Tryz.prog C Lp Tryz.f268 H268 xs := by
  rw [← evalFnA_eq]; unfold sh268; split
  · exact (L268 C Lp _ _).symm
  · rfl
noncomputable def sh270 : ShFn := fun C Lp xs => match xs with
  | [a0, a1] => F270 C Lp a0 a1
  | xs => evalFnA Tryz.prog C Lp Tryz.f270 H270 xs
theorem E270 (C : CallOp) (Lp : LoopOp) (xs : List AV) : sh270 C Lp xs = evalFn Tryz.prog C Lp Tryz.f270 H270 xs := by
  rw [← evalFnA_eq]; unfold sh270; split
  · exact (L270 C Lp _ _).symm
  · rfl
noncomputable def sh283 : ShFn := fun C Lp xs => match xs with
  | [a0] => F283 C Lp a0
  | xs => evalFnA Tryz.prog C Lp Tryz.f283 H283 xs
theorem E283 (C : CallOp) (Lp : LoopOp) (xs : List AV) : sh283 C Lp xs = evalFn Tryz.prog C Lp Tryz.f283 H283 xs := by
  rw [← evalFnA_eq]; unfold sh283; split
  · exact (L283 C Lp _).symm
  · rfl
noncomputable def sh289 : ShFn := fun C Lp xs => match xs with
  | [a0] => F289 C Lp a0
  | xs => evalFnA Tryz.prog C Lp Tryz.f289 H289 xs
theorem E289 (C : CallOp) (Lp : LoopOp) (xs : List AV) : sh289 C Lp xs = evalFn Tryz.prog C Lp Tryz.f289 H289 xs := by
  rw [← evalFnA_eq]; unfold sh289; split
  · exact (L289 C Lp _).symm
  · rfl
noncomputable def sh290 : ShFn := fun C Lp xs => match xs with
  | [a0] => F290 C Lp a0
  | xs => evalFnA Tryz.prog C Lp Tryz.f290 H290 xs
theorem E290 (C : CallOp) (Lp : LoopOp) (xs : List AV) : sh290 C Lp xs = evalFn Tryz.prog C Lp Tryz.f290 H290 xs := by
  rw [← evalFnA_eq]; unfold sh290; split
  · exact (L290 C Lp _).symm
  · rfl
noncomputable def sh297 : ShFn := fun C Lp xs => match xs with
  | [a0, a1] => F297 C Lp a0 a1
  | xs => evalFnA Tryz.prog C Lp Tryz.f297 H297 xs
theorem E297 (C : CallOp) (Lp : LoopOp) (xs : List AV) : sh297 C Lp xs = evalFn Tryz.prog C Lp Tryz.f297 H297 xs := by
  rw [← evalFnA_eq]; unfold sh297; split
  · exact (L297 C Lp _ _).symm
  · rfl
noncomputable def sh298 : ShFn := fun C Lp xs => match xs with
  | [a0] => F298 C Lp a0
  | xs => evalFnA Tryz.prog C Lp Tryz.f298 H298 xs
theorem E298 (C : CallOp) (Lp : LoopOp) (xs : List AV) : sh298 C Lp xs = evalFn Tryz.prog C Lp Tryz.f298 H298 xs := by
  rw [← evalFnA_eq]; unfold sh298; split
  · exact (L298 C Lp _).symm
  · rfl
noncomputable def sh299 : ShFn := fun C Lp xs => match xs with
  | [a0, a1] => F299 C Lp a0 a1
  | xs => evalFnA Tryz.prog C Lp Tryz.f299 H299 xs
theorem E299 (C : CallOp) (Lp : LoopOp) (xs : List AV) : sh299 C Lp xs = evalFn Tryz.prog C Lp Tryz.f299 H299 xs := by
  rw [← evalFnA_eq]; unfold sh299; split
  · exact (L299 C Lp _ _).symm
  · rfl
noncomputable def sh301 : ShFn := fun C Lp xs => match xs with
  | [a0, a1] => F301 C Lp a0 a1
  | xs => evalFnA Tryz.prog C Lp Tryz.f301 H301 xs
theorem E301 (C : CallOp) (Lp : LoopOp) (xs : List AV) : sh301 C Lp xs = evalFn Tryz.prog C Lp Tryz.f301 H301 xs := by
  rw [← evalFnA_eq]; unfold sh301; split
  · exact (L301 C Lp _ _).symm
  · rfl
noncomputable def sh302 : ShFn := fun C Lp xs => match xs with
  | [a0] => F302 C Lp a0
  | xs => evalFnA Tryz.prog C Lp Tryz.f302 H302 xs
theorem E302 (C : CallOp) (Lp : LoopOp) (xs : List AV) : sh302 C Lp xs = evalFn Tryz.prog C Lp Tryz.f302 H302 xs := by
  rw [← evalFnA_eq]; unfold sh302; split
  · exact (L302 C Lp _).symm
  · rfl
noncomputable def sh303 : ShFn := fun C Lp xs => match xs with
  | [a0, a1] => F303 C Lp a0 a1
  | xs => evalFnA Tryz.prog C Lp Tryz.f303 H303 xs
theorem E303 (C : CallOp) (Lp : LoopOp) (xs : List AV) : sh303 C Lp xs = evalFn Tryz.prog C Lp Tryz.f303 H303 xs := by
  rw [← evalFnA_eq]; unfold sh303; split
  · exact (L303 C Lp _ _).symm
  · rfl
noncomputable def sh305 : ShFn := fun C Lp xs => match xs with
  | [a0, a1] => F305 C Lp a0 a1
  | xs => evalFnA Tryz.prog C Lp Tryz.f305 H305 xs
theorem E305 (C : CallOp) (Lp : LoopOp) (xs : List AV) : sh305 C Lp xs = evalFn Tryz.prog C Lp Tryz.f305 H305 xs := by
  rw [← evalFnA_eq]; unfold sh305; split
  · exact (L305 C Lp _ _).symm
  · rfl
noncomputable def sh306 : ShFn := fun C Lp xs => match xs with
  | [a0] => F306 C Lp a0
  | xs => evalFnA Tryz.prog C Lp Tryz.f306 H306 xs
theorem E306 (C : CallOp) (Lp : LoopOp) (xs : List AV) : sh306 C Lp xs = evalFn Tryz.prog C Lp Tryz.f306 H306 xs := by
  rw [← evalFnA_eq]; unfold sh306; split
  · exact (L306 C Lp _).symm
  · rfl
noncomputable def sh307 : ShFn := fun C Lp xs => match xs with
  | [a0] => F307 C Lp a0
  | xs => evalFnA Tryz.prog C Lp Tryz.f307 H307 xs
theorem E307 (C : CallOp) (Lp : LoopOp) (xs : List AV) : sh307 C Lp xs = evalFn Tryz.prog C Lp Tryz.f307 H307 xs := by
  rw [← evalFnA_eq]; unfold sh307; split
  · exact (L307 C Lp _).symm
  · rfl
noncomputable def sh330 : ShFn := fun C Lp xs => match xs with
  | [a0, a1] => F330 C Lp a0 a1
  | xs => evalFnA Tryz.prog C Lp Tryz.f330 H330 xs
theorem E330 (C : CallOp) (Lp : LoopOp) (xs : List AV) : sh330 C Lp xs = evalFn Tryz.prog C Lp Tryz.f330 H330 xs := by
  rw [← evalFnA_eq]; unfold sh330; split
  · exact (L330 C Lp _ _).symm
  · rfl
noncomputable def sh332 : ShFn := fun C Lp xs => match xs with
  | [a0, a1] => F332 C Lp a0 a1
  | xs => evalFnA Tryz.prog C Lp Tryz.f332 H332 xs
theorem E332 (C : CallOp) (Lp : LoopOp) (xs : List AV) : sh332 C Lp xs = evalFn Tryz.prog C Lp Tryz.f332 H332 xs := by
  rw [← evalFnA_eq]; unfold sh332; split
  · exact (L332 C Lp _ _).symm
  · rfl
noncomputable def sh333 : ShFn := fun C Lp xs => match xs with
  | [a0, a1] => F333 C Lp a0 a1
  | xs => evalFnA Tryz.prog C Lp Tryz.f333 H333 xs
theorem E333 (C : CallOp) (Lp : LoopOp) (xs : List AV) : sh333 C Lp xs = evalFn Tryz.prog C Lp Tryz.f333 H333 xs := by
  rw [← evalFnA_eq]; unfold sh333; split
  · exact (L333 C Lp _ _).symm
  · rfl
noncomputable def sh334 : ShFn := fun C Lp xs => match xs with
  | [a0] => F334 C Lp a0
  | xs => evalFnA Tryz.prog C Lp Tryz.f334 H334 xs
theorem E334 (C : CallOp) (Lp : LoopOp) (xs : List AV) : sh334 C Lp xs = evalFn Tryz.prog C Lp Tryz.f334 H334 xs := by
  rw [← evalFnA_eq]; unfold sh334; split
  · exact (L334 C Lp _).symm
  · rfl
noncomputable def sh335 : ShFn := fun C Lp xs => match xs with
  | [a0, a1] => F335 C Lp a0 a1
  | xs => evalFnA Tryz.prog C Lp Tryz.f335 H335 xs
theorem E335 (C : CallOp) (Lp : LoopOp) (xs : List AV) : sh335 C Lp xs = evalFn Tryz.prog C Lp Tryz.f335 H335 xs := by
  rw [← evalFnA_eq]; unfold sh335; split
  · exact (L335 C Lp _ _).symm
  · rfl
noncomputable def sh336 : ShFn := fun C Lp xs => match xs with
  | [a0] => F336 C Lp a0
  | xs => evalFnA Tryz.prog C Lp Tryz.f336 H336 xs
theorem E336 (C : CallOp) (Lp : LoopOp) (xs : List AV) : sh336 C Lp xs = evalFn Tryz.prog C Lp Tryz.f336 H336 xs := by
  rw [← evalFnA_eq]; unfold sh336; split
  · exact (L336 C Lp _).symm
  · rfl
noncomputable def sh348 : ShFn := fun C Lp xs => match xs with
  | [a0] => F348 C Lp a0
  | xs => evalFnA Tryz.prog C Lp Tryz.f348 H348 xs
theorem E348 (C : CallOp) (Lp : LoopOp) (xs : List AV) : sh348 C Lp xs = evalFn Tryz.prog C Lp Tryz.f348 H348 xs := by
  rw [← evalFnA_eq]; unfold sh348; split
  · exact (L348 C Lp _).symm
  · rfl
noncomputable def sh349 : ShFn := fun C Lp xs => match xs with
  | [a0, a1] => F349 C Lp a0 a1
  | xs => evalFnA Tryz.prog C Lp Tryz.f349 H349 xs
theorem E349 (C : CallOp) (Lp : LoopOp) (xs : List AV) : sh349 C Lp xs = evalFn Tryz.prog C Lp Tryz.f349 H349 xs := by
  rw [← evalFnA_eq]; unfold sh349; split
  · exact (L349 C Lp _ _).symm
  · rfl
noncomputable def sh350 : ShFn := fun C Lp xs => match xs with
  | [a0, a1, a2] => F350 C Lp a0 a1 a2
  | xs => evalFnA Tryz.prog C Lp Tryz.f350 H350 xs
theorem E350 (C : CallOp) (Lp : LoopOp) (xs : List AV) : sh350 C Lp xs = evalFn Tryz.prog C Lp Tryz.f350 H350 xs := by
  rw [← evalFnA_eq]; unfold sh350; split
  · exact (L350 C Lp _ _ _).symm
  · rfl
noncomputable def sh351 : ShFn := fun C Lp xs => match xs with
  | [a0] => F351 C Lp a0
  | xs => evalFnA Tryz.prog C Lp Tryz.f351 H351 xs
theorem E351 (C : CallOp) (Lp : LoopOp) (xs : List AV) : sh351 C Lp xs = evalFn Tryz.prog C Lp Tryz.f351 H351 xs := by
  rw [← evalFnA_eq]; unfold sh351; split
  · exact (L351 C Lp _).symm
  · rfl
noncomputable def sh352 : ShFn := fun C Lp xs => match xs with
  | [a0] => F352 C Lp a0
  | xs => evalFnA Tryz.prog C Lp Tryz.f352 H352 xs
theorem E352 (C : CallOp) (Lp : LoopOp) (xs : List AV) : sh352 C Lp xs = evalFn Tryz.prog C Lp Tryz.f352 H352 xs := by
  rw [← evalFnA_eq]; unfold sh352; split
  · exact (L352 C Lp _).symm
  · rfl
noncomputable def sh362 : ShFn := fun C Lp xs => match xs with
  | [a0] => F362 C Lp a0
  | xs => evalFnA Tryz.prog C Lp Tryz.f362 H362 xs
theorem E362 (C : CallOp) (Lp : LoopOp) (xs : List AV) : sh362 C Lp xs = evalFn Tryz.prog C Lp Tryz.f362 H362 xs := by
  rw [← evalFnA_eq]; unfold sh362; split
  · exact (L362 C Lp _).symm
  · rfl
noncomputable def TT : Tr ShFn := (.nd (.nd (.nd (.nd (.nd (.nd (.nd (.nd (.nd .lf (some sh255) .lf) (some sh127) .lf) none (.nd (.nd .lf none .lf) none .lf)) (some sh31) (.nd (.nd (.nd .lf none .lf) none .lf) (some sh95) (.nd (.nd .lf (some sh351) .lf) none .lf))) (some sh15) (.nd (.nd (.nd (.nd .lf none .lf) (some sh143) .lf) (some sh79) (.nd (.nd .lf (some sh335) .lf) (some sh207) .lf)) (some sh47) (.nd (.nd (.nd .lf (some sh303) .lf) (some sh175) .lf) (some sh111) (.nd .lf (some sh239) .lf)))) (some sh7) (.nd (.nd (.nd (.nd (.nd .lf none .lf) (some sh135) .lf) none (.nd (.nd .lf none .lf) none .lf)) (some sh39) (.nd (.nd (.nd .lf none .lf) (some sh167) .lf) none (.nd (.nd .lf none .lf) none .lf))) (some sh23) (.nd (.nd (.nd (.nd .lf none .lf) none .lf) (some sh87) (.nd (.nd .lf none .lf) none .lf)) none (.nd (.nd (.nd .lf none .lf) (some sh183) .lf) (some sh119) (.nd .lf (some sh247) .lf))))) (some sh3) (.nd (.nd (.nd (.nd (.nd (.nd .lf (some sh259) .lf) (some sh131) .lf) none (.nd (.nd .lf none .lf) none .lf)) none (.nd (.nd (.nd .lf none .lf) none .lf) none (.nd (.nd .lf none .lf) none .lf))) (some sh19) (.nd (.nd (.nd (.nd .lf none .lf) none .lf) (some sh83) (.nd (.nd .lf none .lf) none .lf)) (some sh51) (.nd (.nd (.nd .lf (some sh307) .lf) (some sh179) .lf) (some sh115) (.nd .lf none .lf)))) (some sh11) (.nd (.nd (.nd (.nd (.nd .lf none .lf) (some sh139) .lf) none (.nd (.nd .lf none .lf) (some sh203) .lf)) (some sh43) (.nd (.nd (.nd .lf (some sh299) .lf) (some sh171) .lf) none (.nd .lf none .lf))) (some sh27) (.nd (.nd (.nd (.nd .lf (some sh283) .lf) none .lf) (some sh91) (.nd (.nd .lf none .lf) (some sh219) .lf)) (some sh59) (.nd (.nd (.nd .lf none .lf) (some sh187) .lf) (some sh123) (.nd .lf none .lf)))))) none (.nd (.nd (.nd (.nd (.nd (.nd (.nd .lf none .lf) (some sh129) .lf) none (.nd (.nd .lf none .lf) none .lf)) (some sh33) (.nd (.nd (.nd .lf (some sh289) .lf) (some sh161) .lf) (some sh97) (.nd (.nd .lf none .lf) (some sh225) .lf))) (some sh17) (.nd (.nd (.nd (.nd .lf none .lf) none .lf) (some sh81) (.nd (.nd .lf none .lf) (some sh209) .lf)) (some sh49) (.nd (.nd (.nd .lf (some sh305) .lf) (some sh177) .lf) (some sh113) (.nd .lf (some sh241) .lf)))) (some sh9) (.nd (.nd (.nd (.nd (.nd .lf none .lf) (some sh137) .lf) none (.nd (.nd .lf none .lf) (some sh201) .lf)) (some sh41) (.nd (.nd (.nd .lf (some sh297) .lf) (some sh169) .lf) none (.nd (.nd .lf none .lf) (some sh233) .lf))) (some sh25) (.nd (.nd (.nd (.nd .lf none .lf) none .lf) (some sh89) (.nd (.nd .lf none .lf) none .lf)) none (.nd (.nd (.nd .lf none .lf) (some sh185) .lf) (some sh121) (.nd .lf none .lf))))) (some sh5) (.nd (.nd (.nd (.nd (.nd (.nd .lf none .lf) (some sh133) .lf) none (.nd (.nd .lf none .lf) (some sh197) .lf)) none (.nd (.nd (.nd .lf none .lf) (some sh165) .lf) none (.nd (.nd .lf none .lf) none .lf))) (some sh21) (.nd (.nd (.nd (.nd .lf none .lf) none .lf) (some sh85) (.nd (.nd .lf none .lf) (some sh213) .lf)) (some sh53) (.nd (.nd (.nd .lf none .lf) (some sh181) .lf) (some sh117) (.nd .lf none .lf)))) (some sh13) (.nd (.nd (.nd (.nd (.nd .lf none .lf) (some sh141) .lf) none (.nd (.nd .lf (some sh333) .lf) none .lf)) (some sh45) (.nd (.nd (.nd .lf (some sh301) .lf) (some sh173) .lf) none (.nd .lf (some sh237) .lf))) none (.nd (.nd (.nd (.nd .lf none .lf) none .lf) (some sh93) (.nd (.nd .lf (some sh349) .lf) (some sh221) .lf)) (some sh61) (.nd (.nd (.nd .lf none .lf) none .lf) (some sh125) (.nd .lf none .lf))))))) none (.nd (.nd (.nd (.nd (.nd (.nd (.nd (.nd .lf none .lf) (some sh128) .lf) none (.nd (.nd .lf none .lf) none .lf)) (some sh32) (.nd (.nd (.nd .lf none .lf) (some sh160) .lf) (some sh96) (.nd (.nd .lf (some sh352) .lf) none .lf))) (some sh16) (.nd (.nd (.nd (.nd .lf none .lf) none .lf) (some sh80) (.nd (.nd .lf (some sh336) .lf) (some sh208) .lf)) (some sh48) (.nd (.nd (.nd .lf none .lf) (some sh176) .lf) (some sh112) (.nd .lf (some sh240) .lf)))) (some sh8) (.nd (.nd (.nd (.nd (.nd .lf (some sh264) .lf) (some sh136) .lf) none (.nd (.nd .lf none .lf) none .lf)) (some sh40) (.nd (.nd (.nd .lf none .lf) (some sh168) .lf) none (.nd (.nd .lf none .lf) (some sh232) .lf))) (some sh24) (.nd (.nd (.nd (.nd .lf none .lf) none .lf) (some sh88) (.nd (.nd .lf none .lf) (some sh216) .lf)) none (.nd (.nd (.nd .lf none .lf) none .lf) (some sh120) (.nd .lf (some sh248) .lf))))) (some sh4) (.nd (.nd (.nd (.nd (.nd (.nd .lf (some sh260) .lf) (some sh132) .lf) none (.nd (.nd .lf none .lf) none .lf)) none (.nd (.nd (.nd .lf none .lf) (some sh164) .lf) none (.nd (.nd .lf none .lf) none .lf))) none (.nd (.nd (.nd (.nd .lf none .lf) none .lf) (some sh84) (.nd (.nd .lf none .lf) (some sh212) .lf)) (some sh52) (.nd (.nd (.nd .lf none .lf) (some sh180) .lf) (some sh116) (.nd .lf none .lf)))) (some sh12) (.nd (.nd (.nd (.nd (.nd .lf (some sh268) .lf) (some sh140) .lf) none (.nd (.nd .lf (some sh332) .lf) (some sh204) .lf)) (some sh44) (.nd (.nd (.nd .lf none .lf) (some sh172) .lf) none (.nd .lf none .lf))) (some sh28) (.nd (.nd (.nd (.nd .lf none .lf) none .lf) (some sh92) (.nd (.nd .lf (some sh348) .lf) (some sh220) .lf)) none (.nd (.nd (.nd .lf none .lf) (some sh188) .lf) (some sh124) (.nd .lf none .lf)))))) none (.nd (.nd (.nd (.nd (.nd (.nd (.nd .lf (some sh258) .lf) (some sh130) .lf) none (.nd (.nd .lf none .lf) none .lf)) (some sh34) (.nd (.nd (.nd .lf (some sh290) .lf) none .lf) (some sh98) (.nd (.nd .lf none .lf) (some sh226) .lf))) (some sh18) (.nd (.nd (.nd (.nd .lf none .lf) none .lf) (some sh82) (.nd (.nd .lf none .lf) none .lf)) (some sh50) (.nd (.nd (.nd .lf (some sh306) .lf) (some sh178) .lf) (some sh114) (.nd .lf none .lf)))) (some sh10) (.nd (.nd (.nd (.nd (.nd .lf none .lf) (some sh138) .lf) none (.nd (.nd .lf (some sh330) .lf) none .lf)) (some sh42) (.nd (.nd (.nd .lf (some sh298) .lf) (some sh170) .lf) none (.nd (.nd .lf (some sh362) .lf) none .lf))) none (.nd (.nd (.nd (.nd .lf none .lf) none .lf) (some sh90) (.nd (.nd .lf none .lf) none .lf)) none (.nd (.nd (.nd .lf none .lf) none .lf) (some sh122) (.nd .lf none .lf))))) (some sh6) (.nd (.nd (.nd (.nd (.nd (.nd .lf none .lf) none .lf) none (.nd (.nd .lf none .lf) (some sh198) .lf)) (some sh38) (.nd (.nd (.nd .lf none .lf) (some sh166) .lf) none (.nd (.nd .lf none .lf) none .lf))) none (.nd (.nd (.nd (.nd .lf none .lf) none .lf) (some sh86) (.nd (.nd .lf none .lf) (some sh214) .lf)) none (.nd (.nd (.nd .lf none .lf) (some sh182) .lf) (some sh118) (.nd .lf none .lf)))) (some sh14) (.nd (.nd (.nd (.nd (.nd .lf (some sh270) .lf) none .lf) none (.nd (.nd .lf (some sh334) .lf) none .lf)) (some sh46) (.nd (.nd (.nd .lf (some sh302) .lf) (some sh174) .lf) (some sh110) (.nd .lf none .lf))) (some sh30) (.nd (.nd (.nd (.nd .lf none .lf) none .lf) (some sh94) (.nd (.nd .lf (some sh350) .lf) (some sh222) .lf)) (some sh62) (.nd (.nd (.nd .lf none .lf) none .lf) none (.nd .lf none .lf))))))))
def HT : Tr (List Hint) := (.nd (.nd (.nd (.nd (.nd (.nd (.nd (.nd (.nd .lf (some H255) .lf) (some H127) .lf) none (.nd (.nd .lf none .lf) none .lf)) (some H31) (.nd (.nd (.nd .lf none .lf) none .lf) (some H95) (.nd (.nd .lf (some H351) .lf) none .lf))) (some H15) (.nd (.nd (.nd (.nd .lf none .lf) (some H143) .lf) (some H79) (.nd (.nd .lf (some H335) .lf) (some H207) .lf)) (some H47) (.nd (.nd (.nd .lf (some H303) .lf) (some H175) .lf) (some H111) (.nd .lf (some H239) .lf)))) (some H7) (.nd (.nd (.nd (.nd (.nd .lf none .lf) (some H135) .lf) none (.nd (.nd .lf none .lf) none .lf)) (some H39) (.nd (.nd (.nd .lf none .lf) (some H167) .lf) none (.nd (.nd .lf none .lf) none .lf))) (some H23) (.nd (.nd (.nd (.nd .lf none .lf) none .lf) (some H87) (.nd (.nd .lf none .lf) none .lf)) none (.nd (.nd (.nd .lf none .lf) (some H183) .lf) (some H119) (.nd .lf (some H247) .lf))))) (some H3) (.nd (.nd (.nd (.nd (.nd (.nd .lf (some H259) .lf) (some H131) .lf) none (.nd (.nd .lf none .lf) none .lf)) none (.nd (.nd (.nd .lf none .lf) none .lf) none (.nd (.nd .lf none .lf) none .lf))) (some H19) (.nd (.nd (.nd (.nd .lf none .lf) none .lf) (some H83) (.nd (.nd .lf none .lf) none .lf)) (some H51) (.nd (.nd (.nd .lf (some H307) .lf) (some H179) .lf) (some H115) (.nd .lf none .lf)))) (some H11) (.nd (.nd (.nd (.nd (.nd .lf none .lf) (some H139) .lf) none (.nd (.nd .lf none .lf) (some H203) .lf)) (some H43) (.nd (.nd (.nd .lf (some H299) .lf) (some H171) .lf) none (.nd .lf none .lf))) (some H27) (.nd (.nd (.nd (.nd .lf (some H283) .lf) none .lf) (some H91) (.nd (.nd .lf none .lf) (some H219) .lf)) (some H59) (.nd (.nd (.nd .lf none .lf) (some H187) .lf) (some H123) (.nd .lf none .lf)))))) none (.nd (.nd (.nd (.nd (.nd (.nd (.nd .lf none .lf) (some H129) .lf) none (.nd (.nd .lf none .lf) none .lf)) (some H33) (.nd (.nd (.nd .lf (some H289) .lf) (some H161) .lf) (some H97) (.nd (.nd .lf none .lf) (some H225) .lf))) (some H17) (.nd (.nd (.nd (.nd .lf none .lf) none .lf) (some H81) (.nd (.nd .lf none .lf) (some H209) .lf)) (some H49) (.nd (.nd (.nd .lf (some H305) .lf) (some H177) .lf) (some H113) (.nd .lf (some H241) .lf)))) (some H9) (.nd (.nd (.nd (.nd (.nd .lf none .lf) (some H137) .lf) none (.nd (.nd .lf none .lf) (some H201) .lf)) (some H41) (.nd (.nd (.nd .lf (some H297) .lf) (some H169) .lf) none (.nd (.nd .lf none .lf) (some H233) .lf))) (some H25) (.nd (.nd (.nd (.nd .lf none .lf) none .lf) (some H89) (.nd (.nd .lf none .lf) none .lf)) none (.nd (.nd (.nd .lf none .lf) (some H185) .lf) (some H121) (.nd .lf none .lf))))) (some H5) (.nd (.nd (.nd (.nd (.nd (.nd .lf none .lf) (some H133) .lf) none (.nd (.nd .lf none .lf) (some H197) .lf)) none (.nd (.nd (.nd .lf none .lf) (some H165) .lf) none (.nd (.nd .lf none .lf) none .lf))) (some H21) (.nd (.nd (.nd (.nd .lf none .lf) none .lf) (some H85) (.nd (.nd .lf none .lf) (some H213) .lf)) (some H53) (.nd (.nd (.nd .lf none .lf) (some H181) .lf) (some H117) (.nd .lf none .lf)))) (some H13) (.nd (.nd (.nd (.nd (.nd .lf none .lf) (some H141) .lf) none (.nd (.nd .lf (some H333) .lf) none .lf)) (some H45) (.nd (.nd (.nd .lf (some H301) .lf) (some H173) .lf) none (.nd .lf (some H237) .lf))) none (.nd (.nd (.nd (.nd .lf none .lf) none .lf) (some H93) (.nd (.nd .lf (some H349) .lf) (some H221) .lf)) (some H61) (.nd (.nd (.nd .lf none .lf) none .lf) (some H125) (.nd .lf none .lf))))))) none (.nd (.nd (.nd (.nd (.nd (.nd (.nd (.nd .lf none .lf) (some H128) .lf) none (.nd (.nd .lf none .lf) none .lf)) (some H32) (.nd (.nd (.nd .lf none .lf) (some H160) .lf) (some H96) (.nd (.nd .lf (some H352) .lf) none .lf))) (some H16) (.nd (.nd (.nd (.nd .lf none .lf) none .lf) (some H80) (.nd (.nd .lf (some H336) .lf) (some H208) .lf)) (some H48) (.nd (.nd (.nd .lf none .lf) (some H176) .lf) (some H112) (.nd .lf (some H240) .lf)))) (some H8) (.nd (.nd (.nd (.nd (.nd .lf (some H264) .lf) (some H136) .lf) none (.nd (.nd .lf none .lf) none .lf)) (some H40) (.nd (.nd (.nd .lf none .lf) (some H168) .lf) none (.nd (.nd .lf none .lf) (some H232) .lf))) (some H24) (.nd (.nd (.nd (.nd .lf none .lf) none .lf) (some H88) (.nd (.nd .lf none .lf) (some H216) .lf)) none (.nd (.nd (.nd .lf none .lf) none .lf) (some H120) (.nd .lf (some H248) .lf))))) (some H4) (.nd (.nd (.nd (.nd (.nd (.nd .lf (some H260) .lf) (some H132) .lf) none (.nd (.nd .lf none .lf) none .lf)) none (.nd (.nd (.nd .lf none .lf) (some H164) .lf) none (.nd (.nd .lf none .lf) none .lf))) none (.nd (.nd (.nd (.nd .lf none .lf) none .lf) (some H84) (.nd (.nd .lf none .lf) (some H212) .lf)) (some H52) (.nd (.nd (.nd .lf none .lf) (some H180) .lf) (some H116) (.nd .lf none .lf)))) (some H12) (.nd (.nd (.nd (.nd (.nd .lf (some H268) .lf) (some H140) .lf) none (.nd (.nd .lf (some H332) .lf) (some H204) .lf)) (some H44) (.nd (.nd (.nd .lf none .lf) (some H172) .lf) none (.nd .lf none .lf))) (some H28) (.nd (.nd (.nd (.nd .lf none .lf) none .lf) (some H92) (.nd (.nd .lf (some H348) .lf) (some H220) .lf)) none (.nd (.nd (.nd .lf none .lf) (some H188) .lf) (some H124) (.nd .lf none .lf)))))) none (.nd (.nd (.nd (.nd (.nd (.nd (.nd .lf (some H258) .lf) (some H130) .lf) none (.nd (.nd .lf none .lf) none .lf)) (some H34) (.nd (.nd (.nd .lf (some H290) .lf) none .lf) (some H98) (.nd (.nd .lf none .lf) (some H226) .lf))) (some H18) (.nd (.nd (.nd (.nd .lf none .lf) none .lf) (some H82) (.nd (.nd .lf none .lf) none .lf)) (some H50) (.nd (.nd (.nd .lf (some H306) .lf) (some H178) .lf) (some H114) (.nd .lf none .lf)))) (some H10) (.nd (.nd (.nd (.nd (.nd .lf none .lf) (some H138) .lf) none (.nd (.nd .lf (some H330) .lf) none .lf)) (some H42) (.nd (.nd (.nd .lf (some H298) .lf) (some H170) .lf) none (.nd (.nd .lf (some H362) .lf) none .lf))) none (.nd (.nd (.nd (.nd .lf none .lf) none .lf) (some H90) (.nd (.nd .lf none .lf) none .lf)) none (.nd (.nd (.nd .lf none .lf) none .lf) (some H122) (.nd .lf none .lf))))) (some H6) (.nd (.nd (.nd (.nd (.nd (.nd .lf none .lf) none .lf) none (.nd (.nd .lf none .lf) (some H198) .lf)) (some H38) (.nd (.nd (.nd .lf none .lf) (some H166) .lf) none (.nd (.nd .lf none .lf) none .lf))) none (.nd (.nd (.nd (.nd .lf none .lf) none .lf) (some H86) (.nd (.nd .lf none .lf) (some H214) .lf)) none (.nd (.nd (.nd .lf none .lf) (some H182) .lf) (some H118) (.nd .lf none .lf)))) (some H14) (.nd (.nd (.nd (.nd (.nd .lf (some H270) .lf) none .lf) none (.nd (.nd .lf (some H334) .lf) none .lf)) (some H46) (.nd (.nd (.nd .lf (some H302) .lf) (some H174) .lf) (some H110) (.nd .lf none .lf))) (some H30) (.nd (.nd (.nd (.nd .lf none .lf) none .lf) (some H94) (.nd (.nd .lf (some H350) .lf) (some H222) .lf)) (some H62) (.nd (.nd (.nd .lf none .lf) none .lf) none (.nd .lf none .lf))))))))
def HH (f : FuncId) : List Hint := match HT.get f with
  | some h => h
  | none => []
def EntOK (f : Nat) (g : ShFn) : Prop := ∃ fn, Tryz.prog.funcs[f]? = some fn ∧ ∀ C Lp args, g C Lp args = evalFn Tryz.prog C Lp fn (HH f) args
def TabAt (a b : Nat) (t : Tr ShFn) : Prop := ∀ f g, t.get f = some g → EntOK (a * f + b) g
theorem tabAt_lf (a b : Nat) : TabAt a b .lf := fun f g h => by cases f <;> cases h
theorem tabAt_nd (a b : Nat) {l r : Tr ShFn} {v : Option ShFn} (h0 : ∀ g, v = some g → EntOK b g) (hl : TabAt (2 * a) (a + b) l) (hr : TabAt (2 * a) (2 * a + b) r) : TabAt a b (.nd l v r) := by
  intro f g h
  cases f with
  | zero => simpa using h0 g h
  | succ m =>
    rw [Tr.get_succ] at h
    have e0 : 2 * a * (m / 2) = a * (2 * (m / 2)) := by rw [Nat.mul_comm 2 a, Nat.mul_assoc]
    cases hm : Nat.beq (m % 2) 0 with
    | true =>
      rw [hm] at h
      have e : m % 2 = 0 := Nat.eq_of_beq_eq_true hm
      have := hl (m / 2) g h
      have e1 : a * (m + 1) = a * (2 * (m / 2)) + a := by rw [show m + 1 = 2 * (m / 2) + 1 by omega, Nat.mul_add, Nat.mul_one]
      have e2 : 2 * a * (m / 2) + (a + b) = a * (m + 1) + b := by rw [e1, e0]; omega
      rwa [e2] at this
    | false =>
      rw [hm] at h
      have e : m % 2 ≠ 0 := Nat.ne_of_beq_eq_false hm
      have := hr (m / 2) g h
      have e1 : a * (m + 1) = a * (2 * (m / 2)) + 2 * a := by rw [show m + 1 = 2 * (m / 2) + 2 by omega, Nat.mul_add, Nat.mul_comm a 2]
      have e2 : 2 * a * (m / 2) + (2 * a + b) = a * (m + 1) + b := by rw [e1, e0]; omega
      rwa [e2] at this
theorem K3 : ∀ g, some sh3 = some g → EntOK 3 g := fun g h => by cases h; exact ⟨Tryz.f3, Tryz.func3, E3⟩
theorem K4 : ∀ g, some sh4 = some g → EntOK 4 g := fun g h => by cases h; exact ⟨Tryz.f4, Tryz.func4, E4⟩
theorem K5 : ∀ g, some sh5 = some g → EntOK 5 g := fun g h => by cases h; exact ⟨Tryz.f5, Tryz.func5, E5⟩
theorem K6 : ∀ g, some sh6 = some g → EntOK 6 g := fun g h => by cases h; exact ⟨Tryz.f6, Tryz.func6, E6⟩
theorem K7 : ∀ g, some sh7 = some g → EntOK 7 g := fun g h => by cases h; exact ⟨Tryz.f7, Tryz.func7, E7⟩
theorem K8 : ∀ g, some sh8 = some g → EntOK 8 g := fun g h => by cases h; exact ⟨Tryz.f8, Tryz.func8, E8⟩
theorem K9 : ∀ g, some sh9 = some g → EntOK 9 g := fun g h => by cases h; exact ⟨Tryz.f9, Tryz.func9, E9⟩
theorem K10 : ∀ g, some sh10 = some g → EntOK 10 g := fun g h => by cases h; exact ⟨Tryz.f10, Tryz.func10, E10⟩
theorem K11 : ∀ g, some sh11 = some g → EntOK 11 g := fun g h => by cases h; exact ⟨Tryz.f11, Tryz.func11, E11⟩
theorem K12 : ∀ g, some sh12 = some g → EntOK 12 g := fun g h => by cases h; exact ⟨Tryz.f12, Tryz.func12, E12⟩
theorem K13 : ∀ g, some sh13 = some g → EntOK 13 g := fun g h => by cases h; exact ⟨Tryz.f13, Tryz.func13, E13⟩
theorem K14 : ∀ g, some sh14 = some g → EntOK 14 g := fun g h => by cases h; exact ⟨Tryz.f14, Tryz.func14, E14⟩
theorem K15 : ∀ g, some sh15 = some g → EntOK 15 g := fun g h => by cases h; exact ⟨Tryz.f15, Tryz.func15, E15⟩
theorem K16 : ∀ g, some sh16 = some g → EntOK 16 g := fun g h => by cases h; exact ⟨Tryz.f16, Tryz.func16, E16⟩
theorem K17 : ∀ g, some sh17 = some g → EntOK 17 g := fun g h => by cases h; exact ⟨Tryz.f17, Tryz.func17, E17⟩
theorem K18 : ∀ g, some sh18 = some g → EntOK 18 g := fun g h => by cases h; exact ⟨Tryz.f18, Tryz.func18, E18⟩
theorem K19 : ∀ g, some sh19 = some g → EntOK 19 g := fun g h => by cases h; exact ⟨Tryz.f19, Tryz.func19, E19⟩
theorem K21 : ∀ g, some sh21 = some g → EntOK 21 g := fun g h => by cases h; exact ⟨Tryz.f21, Tryz.func21, E21⟩
theorem K23 : ∀ g, some sh23 = some g → EntOK 23 g := fun g h => by cases h; exact ⟨Tryz.f23, Tryz.func23, E23⟩
theorem K24 : ∀ g, some sh24 = some g → EntOK 24 g := fun g h => by cases h; exact ⟨Tryz.f24, Tryz.func24, E24⟩
theorem K25 : ∀ g, some sh25 = some g → EntOK 25 g := fun g h => by cases h; exact ⟨Tryz.f25, Tryz.func25, E25⟩
theorem K27 : ∀ g, some sh27 = some g → EntOK 27 g := fun g h => by cases h; exact ⟨Tryz.f27, Tryz.func27, E27⟩
theorem K28 : ∀ g, some sh28 = some g → EntOK 28 g := fun g h => by cases h; exact ⟨Tryz.f28, Tryz.func28, E28⟩
theorem K30 : ∀ g, some sh30 = some g → EntOK 30 g := fun g h => by cases h; exact ⟨Tryz.f30, Tryz.func30, E30⟩
theorem K31 : ∀ g, some sh31 = some g → EntOK 31 g := fun g h => by cases h; exact ⟨Tryz.f31, Tryz.func31, E31⟩
theorem K32 : ∀ g, some sh32 = some g → EntOK 32 g := fun g h => by cases h; exact ⟨Tryz.f32, Tryz.func32, E32⟩
theorem K33 : ∀ g, some sh33 = some g → EntOK 33 g := fun g h => by cases h; exact ⟨Tryz.f33, Tryz.func33, E33⟩
theorem K34 : ∀ g, some sh34 = some g → EntOK 34 g := fun g h => by cases h; exact ⟨Tryz.f34, Tryz.func34, E34⟩
theorem K38 : ∀ g, some sh38 = some g → EntOK 38 g := fun g h => by cases h; exact ⟨Tryz.f38, Tryz.func38, E38⟩
theorem K39 : ∀ g, some sh39 = some g → EntOK 39 g := fun g h => by cases h; exact ⟨Tryz.f39, Tryz.func39, E39⟩
theorem K40 : ∀ g, some sh40 = some g → EntOK 40 g := fun g h => by cases h; exact ⟨Tryz.f40, Tryz.func40, E40⟩
theorem K41 : ∀ g, some sh41 = some g → EntOK 41 g := fun g h => by cases h; exact ⟨Tryz.f41, Tryz.func41, E41⟩
theorem K42 : ∀ g, some sh42 = some g → EntOK 42 g := fun g h => by cases h; exact ⟨Tryz.f42, Tryz.func42, E42⟩
theorem K43 : ∀ g, some sh43 = some g → EntOK 43 g := fun g h => by cases h; exact ⟨Tryz.f43, Tryz.func43, E43⟩
theorem K44 : ∀ g, some sh44 = some g → EntOK 44 g := fun g h => by cases h; exact ⟨Tryz.f44, Tryz.func44, E44⟩
theorem K45 : ∀ g, some sh45 = some g → EntOK 45 g := fun g h => by cases h; exact ⟨Tryz.f45, Tryz.func45, E45⟩
theorem K46 : ∀ g, some sh46 = some g → EntOK 46 g := fun g h => by cases h; exact ⟨Tryz.f46, Tryz.func46, E46⟩
theorem K47 : ∀ g, some sh47 = some g → EntOK 47 g := fun g h => by cases h; exact ⟨Tryz.f47, Tryz.func47, E47⟩
theorem K48 : ∀ g, some sh48 = some g → EntOK 48 g := fun g h => by cases h; exact ⟨Tryz.f48, Tryz.func48, E48⟩
theorem K49 : ∀ g, some sh49 = some g → EntOK 49 g := fun g h => by cases h; exact ⟨Tryz.f49, Tryz.func49, E49⟩
theorem K50 : ∀ g, some sh50 = some g → EntOK 50 g := fun g h => by cases h; exact ⟨Tryz.f50, Tryz.func50, E50⟩
theorem K51 : ∀ g, some sh51 = some g → EntOK 51 g := fun g h => by cases h; exact ⟨Tryz.f51, Tryz.func51, E51⟩
theorem K52 : ∀ g, some sh52 = some g → EntOK 52 g := fun g h => by cases h; exact ⟨Tryz.f52, Tryz.func52, E52⟩
theorem K53 : ∀ g, some sh53 = some g → EntOK 53 g := fun g h => by cases h; exact ⟨Tryz.f53, Tryz.func53, E53⟩
theorem K59 : ∀ g, some sh59 = some g → EntOK 59 g := fun g h => by cases h; exact ⟨Tryz.f59, Tryz.func59, E59⟩
theorem K61 : ∀ g, some sh61 = some g → EntOK 61 g := fun g h => by cases h; exact ⟨Tryz.f61, Tryz.func61, E61⟩
theorem K62 : ∀ g, some sh62 = some g → EntOK 62 g := fun g h => by cases h; exact ⟨Tryz.f62, Tryz.func62, E62⟩
theorem K79 : ∀ g, some sh79 = some g → EntOK 79 g := fun g h => by cases h; exact ⟨Tryz.f79, Tryz.func79, E79⟩
theorem K80 : ∀ g, some sh80 = some g → EntOK 80 g := fun g h => by cases h; exact ⟨Tryz.f80, Tryz.func80, E80⟩
theorem K81 : ∀ g, some sh81 = some g → EntOK 81 g := fun g h => by cases h; exact ⟨Tryz.f81, Tryz.func81, E81⟩
theorem K82 : ∀ g, some sh82 = some g → EntOK 82 g := fun g h => by cases h; exact ⟨Tryz.f82, Tryz.func82, E82⟩
theorem K83 : ∀ g, some sh83 = some g → EntOK 83 g := fun g h => by cases h; exact ⟨Tryz.f83, Tryz.func83, E83⟩
theorem K84 : ∀ g, some sh84 = some g → EntOK 84 g := fun g h => by cases h; exact ⟨Tryz.f84, Tryz.func84, E84⟩
theorem K85 : ∀ g, some sh85 = some g → EntOK 85 g := fun g h => by cases h; exact ⟨Tryz.f85, Tryz.func85, E85⟩
theorem K86 : ∀ g, some sh86 = some g → EntOK 86 g := fun g h => by cases h; exact ⟨Tryz.f86, Tryz.func86, E86⟩
theorem K87 : ∀ g, some sh87 = some g → EntOK 87 g := fun g h => by cases h; exact ⟨Tryz.f87, Tryz.func87, E87⟩
theorem K88 : ∀ g, some sh88 = some g → EntOK 88 g := fun g h => by cases h; exact ⟨Tryz.f88, Tryz.func88, E88⟩
theorem K89 : ∀ g, some sh89 = some g → EntOK 89 g := fun g h => by cases h; exact ⟨Tryz.f89, Tryz.func89, E89⟩
theorem K90 : ∀ g, some sh90 = some g → EntOK 90 g := fun g h => by cases h; exact ⟨Tryz.f90, Tryz.func90, E90⟩
theorem K91 : ∀ g, some sh91 = some g → EntOK 91 g := fun g h => by cases h; exact ⟨Tryz.f91, Tryz.func91, E91⟩
theorem K92 : ∀ g, some sh92 = some g → EntOK 92 g := fun g h => by cases h; exact ⟨Tryz.f92, Tryz.func92, E92⟩
theorem K93 : ∀ g, some sh93 = some g → EntOK 93 g := fun g h => by cases h; exact ⟨Tryz.f93, Tryz.func93, E93⟩
theorem K94 : ∀ g, some sh94 = some g → EntOK 94 g := fun g h => by cases h; exact ⟨Tryz.f94, Tryz.func94, E94⟩
theorem K95 : ∀ g, some sh95 = some g → EntOK 95 g := fun g h => by cases h; exact ⟨Tryz.f95, Tryz.func95, E95⟩
theorem K96 : ∀ g, some sh96 = some g → EntOK 96 g := fun g h => by cases h; exact ⟨Tryz.f96, Tryz.func96, E96⟩
theorem K97 : ∀ g, some sh97 = some g → EntOK 97 g := fun g h => by cases h; exact ⟨Tryz.f97, Tryz.func97, E97⟩
theorem K98 : ∀ g, some sh98 = some g → EntOK 98 g := fun g h => by cases h; exact ⟨Tryz.f98, Tryz.func98, E98⟩
theorem K110 : ∀ g, some sh110 = some g → EntOK 110 g := fun g h => by cases h; exact ⟨Tryz.f110, Tryz.func110, E110⟩
theorem K111 : ∀ g, some sh111 = some g → EntOK 111 g := fun g h => by cases h; exact ⟨Tryz.f111, Tryz.func111, E111⟩
theorem K112 : ∀ g, some sh112 = some g → EntOK 112 g := fun g h => by cases h; exact ⟨Tryz.f112, Tryz.func112, E112⟩
theorem K113 : ∀ g, some sh113 = some g → EntOK 113 g := fun g h => by cases h; exact ⟨Tryz.f113, Tryz.func113, E113⟩
theorem K114 : ∀ g, some sh114 = some g → EntOK 114 g := fun g h => by cases h; exact ⟨Tryz.f114, Tryz.func114, E114⟩
theorem K115 : ∀ g, some sh115 = some g → EntOK 115 g := fun g h => by cases h; exact ⟨Tryz.f115, Tryz.func115, E115⟩
theorem K116 : ∀ g, some sh116 = some g → EntOK 116 g := fun g h => by cases h; exact ⟨Tryz.f116, Tryz.func116, E116⟩
theorem K117 : ∀ g, some sh117 = some g → EntOK 117 g := fun g h => by cases h; exact ⟨Tryz.f117, Tryz.func117, E117⟩
theorem K118 : ∀ g, some sh118 = some g → EntOK 118 g := fun g h => by cases h; exact ⟨Tryz.f118, Tryz.func118, E118⟩
theorem K119 : ∀ g, some sh119 = some g → EntOK 119 g := fun g h => by cases h; exact ⟨Tryz.f119, Tryz.func119, E119⟩
theorem K120 : ∀ g, some sh120 = some g → EntOK 120 g := fun g h => by cases h; exact ⟨Tryz.f120, Tryz.func120, E120⟩
theorem K121 : ∀ g, some sh121 = some g → EntOK 121 g := fun g h => by cases h; exact ⟨Tryz.f121, Tryz.func121, E121⟩
theorem K122 : ∀ g, some sh122 = some g → EntOK 122 g := fun g h => by cases h; exact ⟨Tryz.f122, Tryz.func122, E122⟩
theorem K123 : ∀ g, some sh123 = some g → EntOK 123 g := fun g h => by cases h; exact ⟨Tryz.f123, Tryz.func123, E123⟩
theorem K124 : ∀ g, some sh124 = some g → EntOK 124 g := fun g h => by cases h; exact ⟨Tryz.f124, Tryz.func124, E124⟩
theorem K125 : ∀ g, some sh125 = some g → EntOK 125 g := fun g h => by cases h; exact ⟨Tryz.f125, Tryz.func125, E125⟩
theorem K127 : ∀ g, some sh127 = some g → EntOK 127 g := fun g h => by cases h; exact ⟨Tryz.f127, Tryz.func127, E127⟩
theorem K128 : ∀ g, some sh128 = some g → EntOK 128 g := fun g h => by cases h; exact ⟨Tryz.f128, Tryz.func128, E128⟩
theorem K129 : ∀ g, some sh129 = some g → EntOK 129 g := fun g h => by cases h; exact ⟨Tryz.f129, Tryz.func129, E129⟩
theorem K130 : ∀ g, some sh130 = some g → EntOK 130 g := fun g h => by cases h; exact ⟨Tryz.f130, Tryz.func130, E130⟩
theorem K131 : ∀ g, some sh131 = some g → EntOK 131 g := fun g h => by cases h; exact ⟨Tryz.f131, Tryz.func131, E131⟩
theorem K132 : ∀ g, some sh132 = some g → EntOK 132 g := fun g h => by cases h; exact ⟨Tryz.f132, Tryz.func132, E132⟩
theorem K133 : ∀ g, some sh133 = some g → EntOK 133 g := fun g h => by cases h; exact ⟨Tryz.f133, Tryz.func133, E133⟩
theorem K135 : ∀ g, some sh135 = some g → EntOK 135 g := fun g h => by cases h; exact ⟨Tryz.f135, Tryz.func135, E135⟩
theorem K136 : ∀ g, some sh136 = some g → EntOK 136 g := fun g h => by cases h; exact ⟨Tryz.f136, Tryz.func136, E136⟩
theorem K137 : ∀ g, some sh137 = some g → EntOK 137 g := fun g h => by cases h; exact ⟨Tryz.f137, Tryz.func137, E137⟩
theorem K138 : ∀ g, some sh138 = some g → EntOK 138 g := fun g h => by cases h; exact ⟨Tryz.f138, Tryz.func138, E138⟩
theorem K139 : ∀ g, some sh139 = some g → EntOK 139 g := fun g h => by cases h; exact ⟨Tryz.f139, Tryz.func139, E139⟩
theorem K140 : ∀ g, some sh140 = some g → EntOK 140 g := fun g h => by cases h; exact ⟨Tryz.f140, Tryz.func140, E140⟩
theorem K141 : ∀ g, some sh141 = some g → EntOK 141 g := fun g h => by cases h; exact ⟨Tryz.f141, Tryz.func141, E141⟩
theorem K143 : ∀ g, some sh143 = some g → EntOK 143 g := fun g h => by cases h; exact ⟨Tryz.f143, Tryz.func143, E143⟩
theorem K160 : ∀ g, some sh160 = some g → EntOK 160 g := fun g h => by cases h; exact ⟨Tryz.f160, Tryz.func160, E160⟩
theorem K161 : ∀ g, some sh161 = some g → EntOK 161 g := fun g h => by cases h; exact ⟨Tryz.f161, Tryz.func161, E161⟩
theorem K164 : ∀ g, some sh164 = some g → EntOK 164 g := fun g h => by cases h; exact ⟨Tryz.f164, Tryz.func164, E164⟩
theorem K165 : ∀ g, some sh165 = some g → EntOK 165 g := fun g h => by cases h; exact ⟨Tryz.f165, Tryz.func165, E165⟩
theorem K166 : ∀ g, some sh166 = some g → EntOK 166 g := fun g h => by cases h; exact ⟨Tryz.f166, Tryz.func166, E166⟩
theorem K167 : ∀ g, some sh167 = some g → EntOK 167 g := fun g h => by cases h; exact ⟨Tryz.f167, Tryz.func167, E167⟩
theorem K168 : ∀ g, some sh168 = some g → EntOK 168 g := fun g h => by cases h; exact ⟨Tryz.f168, Tryz.func168, E168⟩
theorem K169 : ∀ g, some sh169 = some g → EntOK 169 g := fun g h => by cases h; exact ⟨Tryz.f169, Tryz.func169, E169⟩
theorem K170 : ∀ g, some sh170 = some g → EntOK 170 g := fun g h => by cases h; exact ⟨Tryz.f170, Tryz.func170, E170⟩
theorem K171 : ∀ g, some sh171 = some g → EntOK 171 g := fun g h => by cases h; exact ⟨Tryz.f171, Tryz.func171, E171⟩
theorem K172 : ∀ g, some sh172 = some g → EntOK 172 g := fun g h => by cases h; exact ⟨Tryz.f172, Tryz.func172, E172⟩
theorem K173 : ∀ g, some sh173 = some g → EntOK 173 g := fun g h => by cases h; exact ⟨Tryz.f173, Tryz.func173, E173⟩
theorem K174 : ∀ g, some sh174 = some g → EntOK 174 g := fun g h => by cases h; exact ⟨Tryz.f174, Tryz.func174, E174⟩
theorem K175 : ∀ g, some sh175 = some g → EntOK 175 g := fun g h => by cases h; exact ⟨Tryz.f175, Tryz.func175, E175⟩
theorem K176 : ∀ g, some sh176 = some g → EntOK 176 g := fun g h => by cases h; exact ⟨Tryz.f176, Tryz.func176, E176⟩
theorem K177 : ∀ g, some sh177 = some g → EntOK 177 g := fun g h => by cases h; exact ⟨Tryz.f177, Tryz.func177, E177⟩
theorem K178 : ∀ g, some sh178 = some g → EntOK 178 g := fun g h => by cases h; exact ⟨Tryz.f178, Tryz.func178, E178⟩
theorem K179 : ∀ g, some sh179 = some g → EntOK 179 g := fun g h => by cases h; exact ⟨Tryz.f179, Tryz.func179, E179⟩
theorem K180 : ∀ g, some sh180 = some g → EntOK 180 g := fun g h => by cases h; exact ⟨Tryz.f180, Tryz.func180, E180⟩
theorem K181 : ∀ g, some sh181 = some g → EntOK 181 g := fun g h => by cases h; exact ⟨Tryz.f181, Tryz.func181, E181⟩
theorem K182 : ∀ g, some sh182 = some g → EntOK 182 g := fun g h => by cases h; exact ⟨Tryz.f182, Tryz.func182, E182⟩
theorem K183 : ∀ g, some sh183 = some g → EntOK 183 g := fun g h => by cases h; exact ⟨Tryz.f183, Tryz.func183, E183⟩
theorem K185 : ∀ g, some sh185 = some g → EntOK 185 g := fun g h => by cases h; exact ⟨Tryz.f185, Tryz.func185, E185⟩
theorem K187 : ∀ g, some sh187 = some g → EntOK 187 g := fun g h => by cases h; exact ⟨Tryz.f187, Tryz.func187, E187⟩
theorem K188 : ∀ g, some sh188 = some g → EntOK 188 g := fun g h => by cases h; exact ⟨Tryz.f188, Tryz.func188, E188⟩
theorem K197 : ∀ g, some sh197 = some g → EntOK 197 g := fun g h => by cases h; exact ⟨Tryz.f197, Tryz.func197, E197⟩
theorem K198 : ∀ g, some sh198 = some g → EntOK 198 g := fun g h => by cases h; exact ⟨Tryz.f198, Tryz.func198, E198⟩
theorem K201 : ∀ g, some sh201 = some g → EntOK 201 g := fun g h => by cases h; exact ⟨Tryz.f201, Tryz.func201, E201⟩
theorem K203 : ∀ g, some sh203 = some g → EntOK 203 g := fun g h => by cases h; exact ⟨Tryz.f203, Tryz.func203, E203⟩
theorem K204 : ∀ g, some sh204 = some g → EntOK 204 g := fun g h => by cases h; exact ⟨Tryz.f204, Tryz.func204, E204⟩
theorem K207 : ∀ g, some sh207 = some g → EntOK 207 g := fun g h => by cases h; exact ⟨Tryz.f207, Tryz.func207, E207⟩
theorem K208 : ∀ g, some sh208 = some g → EntOK 208 g := fun g h => by cases h; exact ⟨Tryz.f208, Tryz.func208, E208⟩
theorem K209 : ∀ g, some sh209 = some g → EntOK 209 g := fun g h => by cases h; exact ⟨Tryz.f209, Tryz.func209, E209⟩
theorem K212 : ∀ g, some sh212 = some g → EntOK 212 g := fun g h => by cases h; exact ⟨Tryz.f212, Tryz.func212, E212⟩
theorem K213 : ∀ g, some sh213 = some g → EntOK 213 g := fun g h => by cases h; exact ⟨Tryz.f213, Tryz.func213, E213⟩
theorem K214 : ∀ g, some sh214 = some g → EntOK 214 g := fun g h => by cases h; exact ⟨Tryz.f214, Tryz.func214, E214⟩
theorem K216 : ∀ g, some sh216 = some g → EntOK 216 g := fun g h => by cases h; exact ⟨Tryz.f216, Tryz.func216, E216⟩
theorem K219 : ∀ g, some sh219 = some g → EntOK 219 g := fun g h => by cases h; exact ⟨Tryz.f219, Tryz.func219, E219⟩
theorem K220 : ∀ g, some sh220 = some g → EntOK 220 g := fun g h => by cases h; exact ⟨Tryz.f220, Tryz.func220, E220⟩
theorem K221 : ∀ g, some sh221 = some g → EntOK 221 g := fun g h => by cases h; exact ⟨Tryz.f221, Tryz.func221, E221⟩
theorem K222 : ∀ g, some sh222 = some g → EntOK 222 g := fun g h => by cases h; exact ⟨Tryz.f222, Tryz.func222, E222⟩
theorem K225 : ∀ g, some sh225 = some g → EntOK 225 g := fun g h => by cases h; exact ⟨Tryz.f225, Tryz.func225, E225⟩
theorem K226 : ∀ g, some sh226 = some g → EntOK 226 g := fun g h => by cases h; exact ⟨Tryz.f226, Tryz.func226, E226⟩
theorem K232 : ∀ g, some sh232 = some g → EntOK 232 g := fun g h => by cases h; exact ⟨Tryz.f232, Tryz.func232, E232⟩
theorem K233 : ∀ g, some sh233 = some g → EntOK 233 g := fun g h => by cases h; exact ⟨Tryz.f233, Tryz.func233, E233⟩
theorem K237 : ∀ g, some sh237 = some g → EntOK 237 g := fun g h => by cases h; exact ⟨Tryz.f237, Tryz.func237, E237⟩
theorem K239 : ∀ g, some sh239 = some g → EntOK 239 g := fun g h => by cases h; exact ⟨Tryz.f239, Tryz.func239, E239⟩
theorem K240 : ∀ g, some sh240 = some g → EntOK 240 g := fun g h => by cases h; exact ⟨Tryz.f240, Tryz.func240, E240⟩
theorem K241 : ∀ g, some sh241 = some g → EntOK 241 g := fun g h => by cases h; exact ⟨Tryz.f241, Tryz.func241, E241⟩
theorem K247 : ∀ g, some sh247 = some g → EntOK 247 g := fun g h => by cases h; exact ⟨Tryz.f247, Tryz.func247, E247⟩
theorem K248 : ∀ g, some sh248 = some g → EntOK 248 g := fun g h => by cases h; exact ⟨Tryz.f248, Tryz.func248, E248⟩
theorem K255 : ∀ g, some sh255 = some g → EntOK 255 g := fun g h => by cases h; exact ⟨Tryz.f255, Tryz.func255, E255⟩
theorem K258 : ∀ g, some sh258 = some g → EntOK 258 g := fun g h => by cases h; exact ⟨Tryz.f258, Tryz.func258, E258⟩
theorem K259 : ∀ g, some sh259 = some g → EntOK 259 g := fun g h => by cases h; exact ⟨Tryz.f259, Tryz.func259, E259⟩
theorem K260 : ∀ g, some sh260 = some g → EntOK 260 g := fun g h => by cases h; exact ⟨Tryz.f260, Tryz.func260, E260⟩
theorem K264 : ∀ g, some sh264 = some g → EntOK 264 g := fun g h => by cases h; exact ⟨Tryz.f264, Tryz.func264, E264⟩
theorem K268 : ∀ g, some sh268 = some g → EntOK 268 g := fun g h => by cases h; exact ⟨Tryz.f268, Tryz.func268, E268⟩
theorem K270 : ∀ g, some sh270 = some g → EntOK 270 g := fun g h => by cases h; exact ⟨Tryz.f270, Tryz.func270, E270⟩
theorem K283 : ∀ g, some sh283 = some g → EntOK 283 g := fun g h => by cases h; exact ⟨Tryz.f283, Tryz.func283, E283⟩
theorem K289 : ∀ g, some sh289 = some g → EntOK 289 g := fun g h => by cases h; exact ⟨Tryz.f289, Tryz.func289, E289⟩
theorem K290 : ∀ g, some sh290 = some g → EntOK 290 g := fun g h => by cases h; exact ⟨Tryz.f290, Tryz.func290, E290⟩
theorem K297 : ∀ g, some sh297 = some g → EntOK 297 g := fun g h => by cases h; exact ⟨Tryz.f297, Tryz.func297, E297⟩
theorem K298 : ∀ g, some sh298 = some g → EntOK 298 g := fun g h => by cases h; exact ⟨Tryz.f298, Tryz.func298, E298⟩
theorem K299 : ∀ g, some sh299 = some g → EntOK 299 g := fun g h => by cases h; exact ⟨Tryz.f299, Tryz.func299, E299⟩
theorem K301 : ∀ g, some sh301 = some g → EntOK 301 g := fun g h => by cases h; exact ⟨Tryz.f301, Tryz.func301, E301⟩
theorem K302 : ∀ g, some sh302 = some g → EntOK 302 g := fun g h => by cases h; exact ⟨Tryz.f302, Tryz.func302, E302⟩
theorem K303 : ∀ g, some sh303 = some g → EntOK 303 g := fun g h => by cases h; exact ⟨Tryz.f303, Tryz.func303, E303⟩
theorem K305 : ∀ g, some sh305 = some g → EntOK 305 g := fun g h => by cases h; exact ⟨Tryz.f305, Tryz.func305, E305⟩
theorem K306 : ∀ g, some sh306 = some g → EntOK 306 g := fun g h => by cases h; exact ⟨Tryz.f306, Tryz.func306, E306⟩
theorem K307 : ∀ g, some sh307 = some g → EntOK 307 g := fun g h => by cases h; exact ⟨Tryz.f307, Tryz.func307, E307⟩
theorem K330 : ∀ g, some sh330 = some g → EntOK 330 g := fun g h => by cases h; exact ⟨Tryz.f330, Tryz.func330, E330⟩
theorem K332 : ∀ g, some sh332 = some g → EntOK 332 g := fun g h => by cases h; exact ⟨Tryz.f332, Tryz.func332, E332⟩
theorem K333 : ∀ g, some sh333 = some g → EntOK 333 g := fun g h => by cases h; exact ⟨Tryz.f333, Tryz.func333, E333⟩
theorem K334 : ∀ g, some sh334 = some g → EntOK 334 g := fun g h => by cases h; exact ⟨Tryz.f334, Tryz.func334, E334⟩
theorem K335 : ∀ g, some sh335 = some g → EntOK 335 g := fun g h => by cases h; exact ⟨Tryz.f335, Tryz.func335, E335⟩
theorem K336 : ∀ g, some sh336 = some g → EntOK 336 g := fun g h => by cases h; exact ⟨Tryz.f336, Tryz.func336, E336⟩
theorem K348 : ∀ g, some sh348 = some g → EntOK 348 g := fun g h => by cases h; exact ⟨Tryz.f348, Tryz.func348, E348⟩
theorem K349 : ∀ g, some sh349 = some g → EntOK 349 g := fun g h => by cases h; exact ⟨Tryz.f349, Tryz.func349, E349⟩
theorem K350 : ∀ g, some sh350 = some g → EntOK 350 g := fun g h => by cases h; exact ⟨Tryz.f350, Tryz.func350, E350⟩
theorem K351 : ∀ g, some sh351 = some g → EntOK 351 g := fun g h => by cases h; exact ⟨Tryz.f351, Tryz.func351, E351⟩
theorem K352 : ∀ g, some sh352 = some g → EntOK 352 g := fun g h => by cases h; exact ⟨Tryz.f352, Tryz.func352, E352⟩
theorem K362 : ∀ g, some sh362 = some g → EntOK 362 g := fun g h => by cases h; exact ⟨Tryz.f362, Tryz.func362, E362⟩
theorem tabTT : TabAt 1 0 TT := (tabAt_nd 1 0 (fun g h => nomatch h) (tabAt_nd 2 1 (fun g h => nomatch h) (tabAt_nd 4 3 K3 (tabAt_nd 8 7 K7 (tabAt_nd 16 15 K15 (tabAt_nd 32 31 K31 (tabAt_nd 64 63 (fun g h => nomatch h) (tabAt_nd 128 127 K127 (tabAt_nd 256 255 K255 (tabAt_lf 512 511) (tabAt_lf 512 767)) (tabAt_lf 256 383)) (tabAt_nd 128 191 (fun g h => nomatch h) (tabAt_nd 256 319 (fun g h => nomatch h) (tabAt_lf 512 575) (tabAt_lf 512 831)) (tabAt_lf 256 447))) (tabAt_nd 64 95 K95 (tabAt_nd 128 159 (fun g h => nomatch h) (tabAt_nd 256 287 (fun g h => nomatch h) (tabAt_lf 512 543) (tabAt_lf 512 799)) (tabAt_lf 256 415)) (tabAt_nd 128 223 (fun g h => nomatch h) (tabAt_nd 256 351 K351 (tabAt_lf 512 607) (tabAt_lf 512 863)) (tabAt_lf 256 479)))) (tabAt_nd 32 47 K47 (tabAt_nd 64 79 K79 (tabAt_nd 128 143 K143 (tabAt_nd 256 271 (fun g h => nomatch h) (tabAt_lf 512 527) (tabAt_lf 512 783)) (tabAt_lf 256 399)) (tabAt_nd 128 207 K207 (tabAt_nd 256 335 K335 (tabAt_lf 512 591) (tabAt_lf 512 847)) (tabAt_lf 256 463))) (tabAt_nd 64 111 K111 (tabAt_nd 128 175 K175 (tabAt_nd 256 303 K303 (tabAt_lf 512 559) (tabAt_lf 512 815)) (tabAt_lf 256 431)) (tabAt_nd 128 239 K239 (tabAt_lf 256 367) (tabAt_lf 256 495))))) (tabAt_nd 16 23 K23 (tabAt_nd 32 39 K39 (tabAt_nd 64 71 (fun g h => nomatch h) (tabAt_nd 128 135 K135 (tabAt_nd 256 263 (fun g h => nomatch h) (tabAt_lf 512 519) (tabAt_lf 512 775)) (tabAt_lf 256 391)) (tabAt_nd 128 199 (fun g h => nomatch h) (tabAt_nd 256 327 (fun g h => nomatch h) (tabAt_lf 512 583) (tabAt_lf 512 839)) (tabAt_lf 256 455))) (tabAt_nd 64 103 (fun g h => nomatch h) (tabAt_nd 128 167 K167 (tabAt_nd 256 295 (fun g h => nomatch h) (tabAt_lf 512 551) (tabAt_lf 512 807)) (tabAt_lf 256 423)) (tabAt_nd 128 231 (fun g h => nomatch h) (tabAt_nd 256 359 (fun g h => nomatch h) (tabAt_lf 512 615) (tabAt_lf 512 871)) (tabAt_lf 256 487)))) (tabAt_nd 32 55 (fun g h => nomatch h) (tabAt_nd 64 87 K87 (tabAt_nd 128 151 (fun g h => nomatch h) (tabAt_nd 256 279 (fun g h => nomatch h) (tabAt_lf 512 535) (tabAt_lf 512 791)) (tabAt_lf 256 407)) (tabAt_nd 128 215 (fun g h => nomatch h) (tabAt_nd 256 343 (fun g h => nomatch h) (tabAt_lf 512 599) (tabAt_lf 512 855)) (tabAt_lf 256 471))) (tabAt_nd 64 119 K119 (tabAt_nd 128 183 K183 (tabAt_nd 256 311 (fun g h => nomatch h) (tabAt_lf 512 567) (tabAt_lf 512 823)) (tabAt_lf 256 439)) (tabAt_nd 128 247 K247 (tabAt_lf 256 375) (tabAt_lf 256 503)))))) (tabAt_nd 8 11 K11 (tabAt_nd 16 19 K19 (tabAt_nd 32 35 (fun g h => nomatch h) (tabAt_nd 64 67 (fun g h => nomatch h) (tabAt_nd 128 131 K131 (tabAt_nd 256 259 K259 (tabAt_lf 512 515) (tabAt_lf 512 771)) (tabAt_lf 256 387)) (tabAt_nd 128 195 (fun g h => nomatch h) (tabAt_nd 256 323 (fun g h => nomatch h) (tabAt_lf 512 579) (tabAt_lf 512 835)) (tabAt_lf 256 451))) (tabAt_nd 64 99 (fun g h => nomatch h) (tabAt_nd 128 163 (fun g h => nomatch h) (tabAt_nd 256 291 (fun g h => nomatch h) (tabAt_lf 512 547) (tabAt_lf 512 803)) (tabAt_lf 256 419)) (tabAt_nd 128 227 (fun g h => nomatch h) (tabAt_nd 256 355 (fun g h => nomatch h) (tabAt_lf 512 611) (tabAt_lf 512 867)) (tabAt_lf 256 483)))) (tabAt_nd 32 51 K51 (tabAt_nd 64 83 K83 (tabAt_nd 128 147 (fun g h => nomatch h) (tabAt_nd 256 275 (fun g h => nomatch h) (tabAt_lf 512 531) (tabAt_lf 512 787)) (tabAt_lf 256 403)) (tabAt_nd 128 211 (fun g h => nomatch h) (tabAt_nd 256 339 (fun g h => nomatch h) (tabAt_lf 512 595) (tabAt_lf 512 851)) (tabAt_lf 256 467))) (tabAt_nd 64 115 K115 (tabAt_nd 128 179 K179 (tabAt_nd 256 307 K307 (tabAt_lf 512 563) (tabAt_lf 512 819)) (tabAt_lf 256 435)) (tabAt_nd 128 243 (fun g h => nomatch h) (tabAt_lf 256 371) (tabAt_lf 256 499))))) (tabAt_nd 16 27 K27 (tabAt_nd 32 43 K43 (tabAt_nd 64 75 (fun g h => nomatch h) (tabAt_nd 128 139 K139 (tabAt_nd 256 267 (fun g h => nomatch h) (tabAt_lf 512 523) (tabAt_lf 512 779)) (tabAt_lf 256 395)) (tabAt_nd 128 203 K203 (tabAt_nd 256 331 (fun g h => nomatch h) (tabAt_lf 512 587) (tabAt_lf 512 843)) (tabAt_lf 256 459))) (tabAt_nd 64 107 (fun g h => nomatch h) (tabAt_nd 128 171 K171 (tabAt_nd 256 299 K299 (tabAt_lf 512 555) (tabAt_lf 512 811)) (tabAt_lf 256 427)) (tabAt_nd 128 235 (fun g h => nomatch h) (tabAt_lf 256 363) (tabAt_lf 256 491)))) (tabAt_nd 32 59 K59 (tabAt_nd 64 91 K91 (tabAt_nd 128 155 (fun g h => nomatch h) (tabAt_nd 256 283 K283 (tabAt_lf 512 539) (tabAt_lf 512 795)) (tabAt_lf 256 411)) (tabAt_nd 128 219 K219 (tabAt_nd 256 347 (fun g h => nomatch h) (tabAt_lf 512 603) (tabAt_lf 512 859)) (tabAt_lf 256 475))) (tabAt_nd 64 123 K123 (tabAt_nd 128 187 K187 (tabAt_nd 256 315 (fun g h => nomatch h) (tabAt_lf 512 571) (tabAt_lf 512 827)) (tabAt_lf 256 443)) (tabAt_nd 128 251 (fun g h => nomatch h) (tabAt_lf 256 379) (tabAt_lf 256 507))))))) (tabAt_nd 4 5 K5 (tabAt_nd 8 9 K9 (tabAt_nd 16 17 K17 (tabAt_nd 32 33 K33 (tabAt_nd 64 65 (fun g h => nomatch h) (tabAt_nd 128 129 K129 (tabAt_nd 256 257 (fun g h => nomatch h) (tabAt_lf 512 513) (tabAt_lf 512 769)) (tabAt_lf 256 385)) (tabAt_nd 128 193 (fun g h => nomatch h) (tabAt_nd 256 321 (fun g h => nomatch h) (tabAt_lf 512 577) (tabAt_lf 512 833)) (tabAt_lf 256 449))) (tabAt_nd 64 97 K97 (tabAt_nd 128 161 K161 (tabAt_nd 256 289 K289 (tabAt_lf 512 545) (tabAt_lf 512 801)) (tabAt_lf 256 417)) (tabAt_nd 128 225 K225 (tabAt_nd 256 353 (fun g h => nomatch h) (tabAt_lf 512 609) (tabAt_lf 512 865)) (tabAt_lf 256 481)))) (tabAt_nd 32 49 K49 (tabAt_nd 64 81 K81 (tabAt_nd 128 145 (fun g h => nomatch h) (tabAt_nd 256 273 (fun g h => nomatch h) (tabAt_lf 512 529) (tabAt_lf 512 785)) (tabAt_lf 256 401)) (tabAt_nd 128 209 K209 (tabAt_nd 256 337 (fun g h => nomatch h) (tabAt_lf 512 593) (tabAt_lf 512 849)) (tabAt_lf 256 465))) (tabAt_nd 64 113 K113 (tabAt_nd 128 177 K177 (tabAt_nd 256 305 K305 (tabAt_lf 512 561) (tabAt_lf 512 817)) (tabAt_lf 256 433)) (tabAt_nd 128 241 K241 (tabAt_lf 256 369) (tabAt_lf 256 497))))) (tabAt_nd 16 25 K25 (tabAt_nd 32 41 K41 (tabAt_nd 64 73 (fun g h => nomatch h) (tabAt_nd 128 137 K137 (tabAt_nd 256 265 (fun g h => nomatch h) (tabAt_lf 512 521) (tabAt_lf 512 777)) (tabAt_lf 256 393)) (tabAt_nd 128 201 K201 (tabAt_nd 256 329 (fun g h => nomatch h) (tabAt_lf 512 585) (tabAt_lf 512 841)) (tabAt_lf 256 457))) (tabAt_nd 64 105 (fun g h => nomatch h) (tabAt_nd 128 169 K169 (tabAt_nd 256 297 K297 (tabAt_lf 512 553) (tabAt_lf 512 809)) (tabAt_lf 256 425)) (tabAt_nd 128 233 K233 (tabAt_nd 256 361 (fun g h => nomatch h) (tabAt_lf 512 617) (tabAt_lf 512 873)) (tabAt_lf 256 489)))) (tabAt_nd 32 57 (fun g h => nomatch h) (tabAt_nd 64 89 K89 (tabAt_nd 128 153 (fun g h => nomatch h) (tabAt_nd 256 281 (fun g h => nomatch h) (tabAt_lf 512 537) (tabAt_lf 512 793)) (tabAt_lf 256 409)) (tabAt_nd 128 217 (fun g h => nomatch h) (tabAt_nd 256 345 (fun g h => nomatch h) (tabAt_lf 512 601) (tabAt_lf 512 857)) (tabAt_lf 256 473))) (tabAt_nd 64 121 K121 (tabAt_nd 128 185 K185 (tabAt_nd 256 313 (fun g h => nomatch h) (tabAt_lf 512 569) (tabAt_lf 512 825)) (tabAt_lf 256 441)) (tabAt_nd 128 249 (fun g h => nomatch h) (tabAt_lf 256 377) (tabAt_lf 256 505)))))) (tabAt_nd 8 13 K13 (tabAt_nd 16 21 K21 (tabAt_nd 32 37 (fun g h => nomatch h) (tabAt_nd 64 69 (fun g h => nomatch h) (tabAt_nd 128 133 K133 (tabAt_nd 256 261 (fun g h => nomatch h) (tabAt_lf 512 517) (tabAt_lf 512 773)) (tabAt_lf 256 389)) (tabAt_nd 128 197 K197 (tabAt_nd 256 325 (fun g h => nomatch h) (tabAt_lf 512 581) (tabAt_lf 512 837)) (tabAt_lf 256 453))) (tabAt_nd 64 101 (fun g h => nomatch h) (tabAt_nd 128 165 K165 (tabAt_nd 256 293 (fun g h => nomatch h) (tabAt_lf 512 549) (tabAt_lf 512 805)) (tabAt_lf 256 421)) (tabAt_nd 128 229 (fun g h => nomatch h) (tabAt_nd 256 357 (fun g h => nomatch h) (tabAt_lf 512 613) (tabAt_lf 512 869)) (tabAt_lf 256 485)))) (tabAt_nd 32 53 K53 (tabAt_nd 64 85 K85 (tabAt_nd 128 149 (fun g h => nomatch h) (tabAt_nd 256 277 (fun g h => nomatch h) (tabAt_lf 512 533) (tabAt_lf 512 789)) (tabAt_lf 256 405)) (tabAt_nd 128 213 K213 (tabAt_nd 256 341 (fun g h => nomatch h) (tabAt_lf 512 597) (tabAt_lf 512 853)) (tabAt_lf 256 469))) (tabAt_nd 64 117 K117 (tabAt_nd 128 181 K181 (tabAt_nd 256 309 (fun g h => nomatch h) (tabAt_lf 512 565) (tabAt_lf 512 821)) (tabAt_lf 256 437)) (tabAt_nd 128 245 (fun g h => nomatch h) (tabAt_lf 256 373) (tabAt_lf 256 501))))) (tabAt_nd 16 29 (fun g h => nomatch h) (tabAt_nd 32 45 K45 (tabAt_nd 64 77 (fun g h => nomatch h) (tabAt_nd 128 141 K141 (tabAt_nd 256 269 (fun g h => nomatch h) (tabAt_lf 512 525) (tabAt_lf 512 781)) (tabAt_lf 256 397)) (tabAt_nd 128 205 (fun g h => nomatch h) (tabAt_nd 256 333 K333 (tabAt_lf 512 589) (tabAt_lf 512 845)) (tabAt_lf 256 461))) (tabAt_nd 64 109 (fun g h => nomatch h) (tabAt_nd 128 173 K173 (tabAt_nd 256 301 K301 (tabAt_lf 512 557) (tabAt_lf 512 813)) (tabAt_lf 256 429)) (tabAt_nd 128 237 K237 (tabAt_lf 256 365) (tabAt_lf 256 493)))) (tabAt_nd 32 61 K61 (tabAt_nd 64 93 K93 (tabAt_nd 128 157 (fun g h => nomatch h) (tabAt_nd 256 285 (fun g h => nomatch h) (tabAt_lf 512 541) (tabAt_lf 512 797)) (tabAt_lf 256 413)) (tabAt_nd 128 221 K221 (tabAt_nd 256 349 K349 (tabAt_lf 512 605) (tabAt_lf 512 861)) (tabAt_lf 256 477))) (tabAt_nd 64 125 K125 (tabAt_nd 128 189 (fun g h => nomatch h) (tabAt_nd 256 317 (fun g h => nomatch h) (tabAt_lf 512 573) (tabAt_lf 512 829)) (tabAt_lf 256 445)) (tabAt_nd 128 253 (fun g h => nomatch h) (tabAt_lf 256 381) (tabAt_lf 256 509)))))))) (tabAt_nd 2 2 (fun g h => nomatch h) (tabAt_nd 4 4 K4 (tabAt_nd 8 8 K8 (tabAt_nd 16 16 K16 (tabAt_nd 32 32 K32 (tabAt_nd 64 64 (fun g h => nomatch h) (tabAt_nd 128 128 K128 (tabAt_nd 256 256 (fun g h => nomatch h) (tabAt_lf 512 512) (tabAt_lf 512 768)) (tabAt_lf 256 384)) (tabAt_nd 128 192 (fun g h => nomatch h) (tabAt_nd 256 320 (fun g h => nomatch h) (tabAt_lf 512 576) (tabAt_lf 512 832)) (tabAt_lf 256 448))) (tabAt_nd 64 96 K96 (tabAt_nd 128 160 K160 (tabAt_nd 256 288 (fun g h => nomatch h) (tabAt_lf 512 544) (tabAt_lf 512 800)) (tabAt_lf 256 416)) (tabAt_nd 128 224 (fun g h => nomatch h) (tabAt_nd 256 352 K352 (tabAt_lf 512 608) (tabAt_lf 512 864)) (tabAt_lf 256 480)))) (tabAt_nd 32 48 K48 (tabAt_nd 64 80 K80 (tabAt_nd 128 144 (fun g h => nomatch h) (tabAt_nd 256 272 (fun g h => nomatch h) (tabAt_lf 512 528) (tabAt_lf 512 784)) (tabAt_lf 256 400)) (tabAt_nd 128 208 K208 (tabAt_nd 256 336 K336 (tabAt_lf 512 592) (tabAt_lf 512 848)) (tabAt_lf 256 464))) (tabAt_nd 64 112 K112 (tabAt_nd 128 176 K176 (tabAt_nd 256 304 (fun g h => nomatch h) (tabAt_lf 512 560) (tabAt_lf 512 816)) (tabAt_lf 256 432)) (tabAt_nd 128 240 K240 (tabAt_lf 256 368) (tabAt_lf 256 496))))) (tabAt_nd 16 24 K24 (tabAt_nd 32 40 K40 (tabAt_nd 64 72 (fun g h => nomatch h) (tabAt_nd 128 136 K136 (tabAt_nd 256 264 K264 (tabAt_lf 512 520) (tabAt_lf 512 776)) (tabAt_lf 256 392)) (tabAt_nd 128 200 (fun g h => nomatch h) (tabAt_nd 256 328 (fun g h => nomatch h) (tabAt_lf 512 584) (tabAt_lf 512 840)) (tabAt_lf 256 456))) (tabAt_nd 64 104 (fun g h => nomatch h) (tabAt_nd 128 168 K168 (tabAt_nd 256 296 (fun g h => nomatch h) (tabAt_lf 512 552) (tabAt_lf 512 808)) (tabAt_lf 256 424)) (tabAt_nd 128 232 K232 (tabAt_nd 256 360 (fun g h => nomatch h) (tabAt_lf 512 616) (tabAt_lf 512 872)) (tabAt_lf 256 488)))) (tabAt_nd 32 56 (fun g h => nomatch h) (tabAt_nd 64 88 K88 (tabAt_nd 128 152 (fun g h => nomatch h) (tabAt_nd 256 280 (fun g h => nomatch h) (tabAt_lf 512 536) (tabAt_lf 512 792)) (tabAt_lf 256 408)) (tabAt_nd 128 216 K216 (tabAt_nd 256 344 (fun g h => nomatch h) (tabAt_lf 512 600) (tabAt_lf 512 856)) (tabAt_lf 256 472))) (tabAt_nd 64 120 K120 (tabAt_nd 128 184 (fun g h => nomatch h) (tabAt_nd 256 312 (fun g h => nomatch h) (tabAt_lf 512 568) (tabAt_lf 512 824)) (tabAt_lf 256 440)) (tabAt_nd 128 248 K248 (tabAt_lf 256 376) (tabAt_lf 256 504)))))) (tabAt_nd 8 12 K12 (tabAt_nd 16 20 (fun g h => nomatch h) (tabAt_nd 32 36 (fun g h => nomatch h) (tabAt_nd 64 68 (fun g h => nomatch h) (tabAt_nd 128 132 K132 (tabAt_nd 256 260 K260 (tabAt_lf 512 516) (tabAt_lf 512 772)) (tabAt_lf 256 388)) (tabAt_nd 128 196 (fun g h => nomatch h) (tabAt_nd 256 324 (fun g h => nomatch h) (tabAt_lf 512 580) (tabAt_lf 512 836)) (tabAt_lf 256 452))) (tabAt_nd 64 100 (fun g h => nomatch h) (tabAt_nd 128 164 K164 (tabAt_nd 256 292 (fun g h => nomatch h) (tabAt_lf 512 548) (tabAt_lf 512 804)) (tabAt_lf 256 420)) (tabAt_nd 128 228 (fun g h => nomatch h) (tabAt_nd 256 356 (fun g h => nomatch h) (tabAt_lf 512 612) (tabAt_lf 512 868)) (tabAt_lf 256 484)))) (tabAt_nd 32 52 K52 (tabAt_nd 64 84 K84 (tabAt_nd 128 148 (fun g h => nomatch h) (tabAt_nd 256 276 (fun g h => nomatch h) (tabAt_lf 512 532) (tabAt_lf 512 788)) (tabAt_lf 256 404)) (tabAt_nd 128 212 K212 (tabAt_nd 256 340 (fun g h => nomatch h) (tabAt_lf 512 596) (tabAt_lf 512 852)) (tabAt_lf 256 468))) (tabAt_nd 64 116 K116 (tabAt_nd 128 180 K180 (tabAt_nd 256 308 (fun g h => nomatch h) (tabAt_lf 512 564) (tabAt_lf 512 820)) (tabAt_lf 256 436)) (tabAt_nd 128 244 (fun g h => nomatch h) (tabAt_lf 256 372) (tabAt_lf 256 500))))) (tabAt_nd 16 28 K28 (tabAt_nd 32 44 K44 (tabAt_nd 64 76 (fun g h => nomatch h) (tabAt_nd 128 140 K140 (tabAt_nd 256 268 K268 (tabAt_lf 512 524) (tabAt_lf 512 780)) (tabAt_lf 256 396)) (tabAt_nd 128 204 K204 (tabAt_nd 256 332 K332 (tabAt_lf 512 588) (tabAt_lf 512 844)) (tabAt_lf 256 460))) (tabAt_nd 64 108 (fun g h => nomatch h) (tabAt_nd 128 172 K172 (tabAt_nd 256 300 (fun g h => nomatch h) (tabAt_lf 512 556) (tabAt_lf 512 812)) (tabAt_lf 256 428)) (tabAt_nd 128 236 (fun g h => nomatch h) (tabAt_lf 256 364) (tabAt_lf 256 492)))) (tabAt_nd 32 60 (fun g h => nomatch h) (tabAt_nd 64 92 K92 (tabAt_nd 128 156 (fun g h => nomatch h) (tabAt_nd 256 284 (fun g h => nomatch h) (tabAt_lf 512 540) (tabAt_lf 512 796)) (tabAt_lf 256 412)) (tabAt_nd 128 220 K220 (tabAt_nd 256 348 K348 (tabAt_lf 512 604) (tabAt_lf 512 860)) (tabAt_lf 256 476))) (tabAt_nd 64 124 K124 (tabAt_nd 128 188 K188 (tabAt_nd 256 316 (fun g h => nomatch h) (tabAt_lf 512 572) (tabAt_lf 512 828)) (tabAt_lf 256 444)) (tabAt_nd 128 252 (fun g h => nomatch h) (tabAt_lf 256 380) (tabAt_lf 256 508))))))) (tabAt_nd 4 6 K6 (tabAt_nd 8 10 K10 (tabAt_nd 16 18 K18 (tabAt_nd 32 34 K34 (tabAt_nd 64 66 (fun g h => nomatch h) (tabAt_nd 128 130 K130 (tabAt_nd 256 258 K258 (tabAt_lf 512 514) (tabAt_lf 512 770)) (tabAt_lf 256 386)) (tabAt_nd 128 194 (fun g h => nomatch h) (tabAt_nd 256 322 (fun g h => nomatch h) (tabAt_lf 512 578) (tabAt_lf 512 834)) (tabAt_lf 256 450))) (tabAt_nd 64 98 K98 (tabAt_nd 128 162 (fun g h => nomatch h) (tabAt_nd 256 290 K290 (tabAt_lf 512 546) (tabAt_lf 512 802)) (tabAt_lf 256 418)) (tabAt_nd 128 226 K226 (tabAt_nd 256 354 (fun g h => nomatch h) (tabAt_lf 512 610) (tabAt_lf 512 866)) (tabAt_lf 256 482)))) (tabAt_nd 32 50 K50 (tabAt_nd 64 82 K82 (tabAt_nd 128 146 (fun g h => nomatch h) (tabAt_nd 256 274 (fun g h => nomatch h) (tabAt_lf 512 530) (tabAt_lf 512 786)) (tabAt_lf 256 402)) (tabAt_nd 128 210 (fun g h => nomatch h) (tabAt_nd 256 338 (fun g h => nomatch h) (tabAt_lf 512 594) (tabAt_lf 512 850)) (tabAt_lf 256 466))) (tabAt_nd 64 114 K114 (tabAt_nd 128 178 K178 (tabAt_nd 256 306 K306 (tabAt_lf 512 562) (tabAt_lf 512 818)) (tabAt_lf 256 434)) (tabAt_nd 128 242 (fun g h => nomatch h) (tabAt_lf 256 370) (tabAt_lf 256 498))))) (tabAt_nd 16 26 (fun g h => nomatch h) (tabAt_nd 32 42 K42 (tabAt_nd 64 74 (fun g h => nomatch h) (tabAt_nd 128 138 K138 (tabAt_nd 256 266 (fun g h => nomatch h) (tabAt_lf 512 522) (tabAt_lf 512 778)) (tabAt_lf 256 394)) (tabAt_nd 128 202 (fun g h => nomatch h) (tabAt_nd 256 330 K330 (tabAt_lf 512 586) (tabAt_lf 512 842)) (tabAt_lf 256 458))) (tabAt_nd 64 106 (fun g h => nomatch h) (tabAt_nd 128 170 K170 (tabAt_nd 256 298 K298 (tabAt_lf 512 554) (tabAt_lf 512 810)) (tabAt_lf 256 426)) (tabAt_nd 128 234 (fun g h => nomatch h) (tabAt_nd 256 362 K362 (tabAt_lf 512 618) (tabAt_lf 512 874)) (tabAt_lf 256 490)))) (tabAt_nd 32 58 (fun g h => nomatch h) (tabAt_nd 64 90 K90 (tabAt_nd 128 154 (fun g h => nomatch h) (tabAt_nd 256 282 (fun g h => nomatch h) (tabAt_lf 512 538) (tabAt_lf 512 794)) (tabAt_lf 256 410)) (tabAt_nd 128 218 (fun g h => nomatch h) (tabAt_nd 256 346 (fun g h => nomatch h) (tabAt_lf 512 602) (tabAt_lf 512 858)) (tabAt_lf 256 474))) (tabAt_nd 64 122 K122 (tabAt_nd 128 186 (fun g h => nomatch h) (tabAt_nd 256 314 (fun g h => nomatch h) (tabAt_lf 512 570) (tabAt_lf 512 826)) (tabAt_lf 256 442)) (tabAt_nd 128 250 (fun g h => nomatch h) (tabAt_lf 256 378) (tabAt_lf 256 506)))))) (tabAt_nd 8 14 K14 (tabAt_nd 16 22 (fun g h => nomatch h) (tabAt_nd 32 38 K38 (tabAt_nd 64 70 (fun g h => nomatch h) (tabAt_nd 128 134 (fun g h => nomatch h) (tabAt_nd 256 262 (fun g h => nomatch h) (tabAt_lf 512 518) (tabAt_lf 512 774)) (tabAt_lf 256 390)) (tabAt_nd 128 198 K198 (tabAt_nd 256 326 (fun g h => nomatch h) (tabAt_lf 512 582) (tabAt_lf 512 838)) (tabAt_lf 256 454))) (tabAt_nd 64 102 (fun g h => nomatch h) (tabAt_nd 128 166 K166 (tabAt_nd 256 294 (fun g h => nomatch h) (tabAt_lf 512 550) (tabAt_lf 512 806)) (tabAt_lf 256 422)) (tabAt_nd 128 230 (fun g h => nomatch h) (tabAt_nd 256 358 (fun g h => nomatch h) (tabAt_lf 512 614) (tabAt_lf 512 870)) (tabAt_lf 256 486)))) (tabAt_nd 32 54 (fun g h => nomatch h) (tabAt_nd 64 86 K86 (tabAt_nd 128 150 (fun g h => nomatch h) (tabAt_nd 256 278 (fun g h => nomatch h) (tabAt_lf 512 534) (tabAt_lf 512 790)) (tabAt_lf 256 406)) (tabAt_nd 128 214 K214 (tabAt_nd 256 342 (fun g h => nomatch h) (tabAt_lf 512 598) (tabAt_lf 512 854)) (tabAt_lf 256 470))) (tabAt_nd 64 118 K118 (tabAt_nd 128 182 K182 (tabAt_nd 256 310 (fun g h => nomatch h) (tabAt_lf 512 566) (tabAt_lf 512 822)) (tabAt_lf 256 438)) (tabAt_nd 128 246 (fun g h => nomatch h) (tabAt_lf 256 374) (tabAt_lf 256 502))))) (tabAt_nd 16 30 K30 (tabAt_nd 32 46 K46 (tabAt_nd 64 78 (fun g h => nomatch h) (tabAt_nd 128 142 (fun g h => nomatch h) (tabAt_nd 256 270 K270 (tabAt_lf 512 526) (tabAt_lf 512 782)) (tabAt_lf 256 398)) (tabAt_nd 128 206 (fun g h => nomatch h) (tabAt_nd 256 334 K334 (tabAt_lf 512 590) (tabAt_lf 512 846)) (tabAt_lf 256 462))) (tabAt_nd 64 110 K110 (tabAt_nd 128 174 K174 (tabAt_nd 256 302 K302 (tabAt_lf 512 558) (tabAt_lf 512 814)) (tabAt_lf 256 430)) (tabAt_nd 128 238 (fun g h => nomatch h) (tabAt_lf 256 366) (tabAt_lf 256 494)))) (tabAt_nd 32 62 K62 (tabAt_nd 64 94 K94 (tabAt_nd 128 158 (fun g h => nomatch h) (tabAt_nd 256 286 (fun g h => nomatch h) (tabAt_lf 512 542) (tabAt_lf 512 798)) (tabAt_lf 256 414)) (tabAt_nd 128 222 K222 (tabAt_nd 256 350 K350 (tabAt_lf 512 606) (tabAt_lf 512 862)) (tabAt_lf 256 478))) (tabAt_nd 64 126 (fun g h => nomatch h) (tabAt_nd 128 190 (fun g h => nomatch h) (tabAt_nd 256 318 (fun g h => nomatch h) (tabAt_lf 512 574) (tabAt_lf 512 830)) (tabAt_lf 256 446)) (tabAt_nd 128 254 (fun g h => nomatch h) (tabAt_lf 256 382) (tabAt_lf 256 510)))))))))
theorem tabOK : TabOK Tryz.prog TT HH := fun f g h => by
  have := tabTT f g h
  rwa [Nat.one_mul, Nat.add_zero] at this
end Go.Am
