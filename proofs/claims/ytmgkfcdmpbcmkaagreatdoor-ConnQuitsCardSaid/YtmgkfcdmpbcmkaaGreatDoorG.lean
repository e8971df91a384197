/- A text of the claim: SG. -/
import Derived.Test.YtmgkfcdmpbcmkaaGreatDoorX
import Derived.Test.YtmgkfcdmpbcmkaaGreatDoorAmF
import Derived.Deep.DeepHandedRow
import Derived.Deep.DeepWitnessRowRef
import Derived.Test.YtmgkfcdmpbcmkaaGreatDoorCards
import Derived.Test.YtmgkfcdmpbcmkaaGreatDoorTie
/- The seat's package-level variables, its witness's world. -/
namespace Go.Am
open Go.Proofs Go.Proofs.YtmgkfcdmpbcmkaaGreatDoor Go.ChangeShapes Go.WideShapes Go.ChangeAt Go.RowKit
set_option maxRecDepth 1000000
def rowSize (P : Program) (g : Nat) : Option Nat := (((begin P (fun _ _ => 0) default).world.heap[g]?).bind Obj.row?).map (·.1.size)
theorem seen_shape' {P : Program} {w : World} {g S : Nat} (h : w.ShapedOpen P) (hg : g < P.globals.size) (h0 : rowSize P g = some S) (μ : Inj) : Seen μ w (g, 0, S) [] := by
  obtain ⟨⟨z, t⟩, h1, rfl⟩ := Option.map_eq_some_iff.1 h0
  exact seen_shape h hg h1 μ
theorem seen_tab' {P : Program} {w : World} {g S : Nat} {name : String} {k : IntKind} {zs : List Int} (h : w.ShapedOpen P) (hg : g < P.globals.size) (h0 : rowSize P g = some S) (hz : zs.length = S) (hn : P.globalNamed name = some g) (ht : Lib.TabIs P w name k zs) (μ : Inj) :
    Seen μ w (g, 0, S) (zs.map fun z => .int k z) := by
  obtain ⟨⟨z, t⟩, h1, rfl⟩ := Option.map_eq_some_iff.1 h0
  exact seen_tab h hg h1 hz hn ht μ
theorem globSize : Tryz.prog.globals.size = 8 := by kernel_rfl
def zs1 : List Int := [1, 10, 100, 1000, 10000, 100000, 1000000, 10000000, 100000000, 1000000000, 10000000000, 100000000000, 1000000000000, 10000000000000, 100000000000000, 1000000000000000, 10000000000000000, 100000000000000000, 1000000000000000000, 10000000000000000000]
theorem tab1Is {W : World} (h : laidMetH Tryz.prog Rows.connAllRow.laid W) : Lib.TabIs Tryz.prog W "internal/strconv.uint64pow10" .u64 zs1 := by
  obtain ⟨ps, h0, _⟩ := (show laidMet Tryz.prog Rows.connAllRow.laid W from h)
  obtain ⟨_, h0⟩ := laidVars_tail h0
  obtain ⟨_, h0⟩ := laidVars_tail h0
  exact tabIs_of_vars (g := 1) (t := 314) (e := 289) (n := 20) (by kernel_rfl) (by kernel_rfl) (by kernel_rfl) (by kernel_rfl) (by kernel_rfl) (by kernel_rfl) h0
def zs5 : List Int := [0, 1, 56, 2, 57, 49, 28, 3, 61, 58, 42, 50, 38, 29, 17, 4, 62, 47, 59, 36, 45, 43, 51, 22, 53, 39, 33, 30, 24, 18, 12, 5, 63, 55, 48, 27, 60, 41, 37, 16, 46, 35, 44, 21, 52, 32, 23, 11, 54, 26, 40, 15, 34, 20, 31, 10, 25, 14, 19, 9, 13, 8, 7, 6]
theorem tab5Is {W : World} (h : laidMetH Tryz.prog Rows.connAllRow.laid W) : Lib.TabIs Tryz.prog W "math/bits.deBruijn64tab" .u8 zs5 := by
  obtain ⟨ps, h0, _⟩ := (show laidMet Tryz.prog Rows.connAllRow.laid W from h)
  obtain ⟨_, h0⟩ := laidVars_tail h0
  exact tabIs_of_vars (g := 5) (t := 364) (e := 5) (n := 64) (by kernel_rfl) (by kernel_rfl) (by kernel_rfl) (by kernel_rfl) (by kernel_rfl) (by kernel_rfl) h0
def lG : List (List AV) := [[], (zs1.map fun z => .int .u64 z), [], [], [], (zs5.map fun z => .int .u8 z), [], []]
def bG : List (Nat × Nat × Nat) := [(0, 0, 1), (1, 0, 20), (2, 0, 256), (3, 0, 32), (4, 0, 32), (5, 0, 64), (6, 0, 1), (7, 0, 1)]
theorem seatSeen {W : World} (hs : W.ShapedOpen Tryz.prog) (hL : laidMetH Tryz.prog Rows.connAllRow.laid W) (μ : Inj) : ∀ (b : Nat) x cs, bG[b]? = some x → lG[b]? = some cs → Seen μ W x cs := by
  intro b x cs h1 h2
  match b, h1, h2 with
  | 0, h1, h2 => cases h1; cases h2; exact seen_shape' hs (by rw [globSize]; omega) (by kernel_rfl) μ
  | 1, h1, h2 => cases h1; cases h2; exact seen_tab' hs (by rw [globSize]; omega) (by kernel_rfl) (by kernel_rfl) (by kernel_rfl) (tab1Is hL) μ
  | 2, h1, h2 => cases h1; cases h2; exact seen_shape' hs (by rw [globSize]; omega) (by kernel_rfl) μ
  | 3, h1, h2 => cases h1; cases h2; exact seen_shape' hs (by rw [globSize]; omega) (by kernel_rfl) μ
  | 4, h1, h2 => cases h1; cases h2; exact seen_shape' hs (by rw [globSize]; omega) (by kernel_rfl) μ
  | 5, h1, h2 => cases h1; cases h2; exact seen_tab' hs (by rw [globSize]; omega) (by kernel_rfl) (by kernel_rfl) (by kernel_rfl) (tab5Is hL) μ
  | 6, h1, h2 => cases h1; cases h2; exact seen_shape' hs (by rw [globSize]; omega) (by kernel_rfl) μ
  | 7, h1, h2 => cases h1; cases h2; exact seen_shape' hs (by rw [globSize]; omega) (by kernel_rfl) μ
  | n + 8, h1, h2 => simp [bG] at h1
/-- The relation at the call's beginning: the variables, and blocks of the arguments. -/
theorem seatRel {W : World} (hs : W.ShapedOpen Tryz.prog) (hL : laidMetH Tryz.prog Rows.connAllRow.laid W) (l : List (List AV)) (bs : List (Nat × Nat × Nat)) (hl : l.length = bs.length)
    (h : ∀ (b : Nat) x cs, bs[b]? = some x → l[b]? = some cs → Seen (initI (bG ++ bs)) W x cs) : Rel (initI (bG ++ bs)) (initH (lG ++ l)) W := by
  refine rel_init (by simp [lG, bG, hl]) fun b x cs h1 h2 => ?_
  by_cases hb : b < 8
  · rw [List.getElem?_append_left (by simpa [bG] using hb)] at h1
    rw [List.getElem?_append_left (by simpa [lG] using hb)] at h2
    exact seatSeen hs hL _ b x cs h1 h2
  · rw [List.getElem?_append_right (by simp [bG]; omega)] at h1
    rw [List.getElem?_append_right (by simp [lG]; omega)] at h2
    exact h _ x cs h1 h2
theorem seatGlob (bs : List (Nat × Nat × Nat)) : GlobOK 8 (initI (bG ++ bs)) := by
  intro g hg
  match g, hg with
  | 0, _ => exact ⟨1, rfl⟩
  | 1, _ => exact ⟨20, rfl⟩
  | 2, _ => exact ⟨256, rfl⟩
  | 3, _ => exact ⟨32, rfl⟩
  | 4, _ => exact ⟨32, rfl⟩
  | 5, _ => exact ⟨64, rfl⟩
  | 6, _ => exact ⟨1, rfl⟩
  | 7, _ => exact ⟨1, rfl⟩
  | n + 8, h => omega
theorem seatRo (l : List (List AV)) (bs : List (Nat × Nat × Nat)) (hl : l.length = bs.length) : ∀ b x, initI (bG ++ bs) b = some x → isRo ((initH (lG ++ l)).objs.get b) :=
  initH_ro (by simp [lG, bG, hl])
mutual
def flatD : DataW Unit → List Value
  | .lit (.int k z) => [.int k z]
  | .agg ds => flatDs ds
  | _ => []
def flatDs : List (DataW Unit) → List Value
  | [] => []
  | d :: ds => flatD d ++ flatDs ds
end
def setC (cs : Array Value) : Obj → Obj
  | .cells _ t frozen => .cells cs t frozen
  | o => o
def witBlocks : Array Obj := #[.cells #[.string ⟨#[118, 97, 108, 117, 101, 32, 111, 117, 116, 32, 111, 102, 32, 114, 97, 110, 103, 101]⟩] 389, .cells #[.string ⟨#[105, 110, 118, 97, 108, 105, 100, 32, 115, 121, 110, 116, 97, 120]⟩] 389]
noncomputable def laidWorld (os : Os) : World := { World.holding Tryz.prog os ⟨witBlocks, #[], []⟩ with heap := (Array.modify (Array.modify (Array.modify (Array.modify (Array.modify (Array.modify (Array.modify (World.holding Tryz.prog os ⟨witBlocks, #[], []⟩).heap 4 (setC (flatD Rows.laid_math_bits_deBruijn32tab).toArray)) 5 (setC (flatD Rows.laid_math_bits_deBruijn64tab).toArray)) 1 (setC (flatD Rows.laid_internal_strconv_uint64pow10).toArray)) 3 (setC (flatD Rows.laid_unicode_utf8_acceptRanges).toArray)) 7 (setC #[.iface 387 (.pointer (some ⟨13, 0, none⟩))])) 6 (setC #[.iface 387 (.pointer (some ⟨14, 0, none⟩))])) 2 (setC (flatD Rows.laid_unicode_utf8_first).toArray)) }
end Go.Am
