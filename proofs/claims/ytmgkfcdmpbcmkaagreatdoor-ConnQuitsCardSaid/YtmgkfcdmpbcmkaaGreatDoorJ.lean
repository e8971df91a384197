/- A text of the claim: SJ. -/
import Derived.Test.YtmgkfcdmpbcmkaaGreatDoorAmF
import Derived.Shelf.Strings.OnBuilder
import Derived.KernelRfl
import Derived.Test.YtmgkfcdmpbcmkaaGreatDoorProg
namespace Go.Am
open Go.Proofs Go.Shelf
set_option maxRecDepth 1000000
def lkN : List (Nat × Nat) → Nat → Nat
  | [], n => n
  | (a, b) :: l, n => cond (Nat.beq n a) b (lkN l n)
def joinRen : Shelf.Ren := ⟨lkN [(156, 164), (165, 200), (166, 201), (169, 202), (240, 235), (241, 236), (276, 256), (277, 257)], lkN [(0, 0), (3, 3), (4, 4), (5, 5), (9, 9), (20, 20), (31, 143), (37, 22), (70, 244), (72, 246), (75, 248), (76, 249), (80, 104), (127, 272), (164, 286)], lkN []⟩
theorem laysJoin : Lays.n156 Tryz.prog joinRen where
  mixed := by kernel_rfl
  f156 := by kernel_rfl
  f165 := by kernel_rfl
  f166 := by kernel_rfl
  f169 := by kernel_rfl
  f240 := by kernel_rfl
  f241 := by kernel_rfl
  f276 := by kernel_rfl
  f277 := by kernel_rfl
  t0 := by kernel_rfl
  a0 := fun w => by kernel_rfl
  z0 := fun w => by kernel_rfl
  v0 := fun w => by kernel_rfl
  t3 := by kernel_rfl
  a3 := fun w => by kernel_rfl
  z3 := fun w => by kernel_rfl
  v3 := fun w => by kernel_rfl
  t4 := by kernel_rfl
  a4 := fun w => by kernel_rfl
  z4 := fun w => by kernel_rfl
  v4 := fun w => by kernel_rfl
  t9 := by kernel_rfl
  a9 := fun w => by kernel_rfl
  z9 := fun w => by kernel_rfl
  v9 := fun w => by kernel_rfl
  t20 := by kernel_rfl
  a20 := fun w => by kernel_rfl
  z20 := fun w => by kernel_rfl
  v20 := fun w => by kernel_rfl
  t31 := by kernel_rfl
  a31 := fun w => by kernel_rfl
  z31 := fun w => by kernel_rfl
  v31 := fun w => by kernel_rfl
  t37 := by kernel_rfl
  a37 := fun w => by kernel_rfl
  z37 := fun w => by kernel_rfl
  v37 := fun w => by kernel_rfl
  t70 := by kernel_rfl
  a70 := fun w => by kernel_rfl
  z70 := fun w => by kernel_rfl
  v70 := fun w => by kernel_rfl
  t72 := by kernel_rfl
  a72 := fun w => by kernel_rfl
  z72 := fun w => by kernel_rfl
  v72 := fun w => by kernel_rfl
  t75 := by kernel_rfl
  a75 := fun w => by kernel_rfl
  z75 := fun w => by kernel_rfl
  v75 := fun w => by kernel_rfl
  t76 := by kernel_rfl
  a76 := fun w => by kernel_rfl
  z76 := fun w => by kernel_rfl
  v76 := fun w => by kernel_rfl
  t127 := by kernel_rfl
  a127 := fun w => by kernel_rfl
  z127 := fun w => by kernel_rfl
  v127 := fun w => by kernel_rfl
  t164 := by kernel_rfl
  a164 := fun w => by kernel_rfl
  z164 := fun w => by kernel_rfl
  v164 := fun w => by kernel_rfl
theorem extraJoin : Builder.Extra Tryz.prog joinRen where
  sizeBuilder := by kernel_rfl
  liesBuilder := by kernel_rfl
  t5 := by kernel_rfl
  a5 := fun w => by kernel_rfl
  z5 := fun w => by kernel_rfl
  v5 := fun w => by kernel_rfl
  infoByte := by kernel_rfl
  cellsByte := by kernel_rfl
  sizeByte := by kernel_rfl
  neB5 := by decide
theorem joinOK : JoinOK Tryz.prog 164 := by
  refine ⟨fun args w => ?_, fun a c sep w => Any.strings_Join_none laysJoin extraJoin a c sep w, fun bk o c xs sep w h1 h2 h3 h4 h5 => Any.strings_Join laysJoin extraJoin bk o c xs sep w h1 h2 h3 h4 h5⟩
  have hn : Tryz.f164.name ≠ "runtime.NumGoroutine" := by decide +kernel
  have hb : Tryz.f164.body.isNone = false := by decide +kernel
  simp [callFunc, Tryz.func164, hn]
  intro h
  rw [h] at hb
  cases hb
end Go.Am
