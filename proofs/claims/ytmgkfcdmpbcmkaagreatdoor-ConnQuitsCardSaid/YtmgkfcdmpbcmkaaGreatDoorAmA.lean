/- A text of the claim: AmDefs, AmOps, AmEval, AmRel, AmMem, AmWrite, AmAlloc. -/
import Derived.Orders
import Derived.Laws.Sem
import Derived.Laws.World
import Derived.Laws.Cells
import Derived.Laws.IdiomCopy
/- The abstract machine: values, heap, primitives. Nothing is proved of the program here. -/
namespace Go.Am

/- ### a trie keyed by numbers -/
inductive Tr (α : Type) where
  | lf
  | nd (l : Tr α) (v : Option α) (r : Tr α)

namespace Tr
variable {α : Type}
def left : Tr α → Tr α
  | .lf => .lf
  | .nd l _ _ => l
def right : Tr α → Tr α
  | .lf => .lf
  | .nd _ _ r => r
def val : Tr α → Option α
  | .lf => none
  | .nd _ v _ => v
def get : Tr α → Nat → Option α
  | .lf, _ => none
  | .nd l v r, n => match n with
    | 0 => v
    | m + 1 => cond (Nat.beq (m % 2) 0) (l.get (m / 2)) (r.get (m / 2))
def setF (x : α) : Nat → Nat → Tr α → Tr α
  | 0, _, t => .nd t.left (some x) t.right
  | f + 1, n, t => match n with
    | 0 => .nd t.left (some x) t.right
    | m + 1 => cond (Nat.beq (m % 2) 0) (.nd (setF x f (m / 2) t.left) t.val t.right) (.nd t.left t.val (setF x f (m / 2) t.right))
def set (t : Tr α) (n : Nat) (x : α) : Tr α := setF x n n t

theorem get_zero (t : Tr α) : t.get 0 = t.val := by cases t <;> rfl
theorem get_succ (t : Tr α) (m : Nat) : t.get (m + 1) = cond (Nat.beq (m % 2) 0) (t.left.get (m / 2)) (t.right.get (m / 2)) := by
  cases t with
  | lf => simp [get, left, right]
  | nd l v r => rfl
theorem get_setF (x : α) : ∀ (f n : Nat) (t : Tr α) (k : Nat), n ≤ f → (setF x f n t).get k = if k = n then some x else t.get k
  | 0, n, t, k, h => by
    obtain rfl : n = 0 := by omega
    simp only [setF]
    cases k with
    | zero => simp [get]
    | succ k => rw [get_succ, get_succ]; simp [left, right]
  | f + 1, n, t, k, h => by
    cases n with
    | zero =>
      simp only [setF]
      cases k with
      | zero => simp [get]
      | succ k => rw [get_succ, get_succ]; simp [left, right]
    | succ m =>
      simp only [setF]
      cases hm : Nat.beq (m % 2) 0 with
      | true =>
        have hm' : m % 2 = 0 := Nat.eq_of_beq_eq_true hm
        simp only [cond]
        cases k with
        | zero => simp [get_zero, val]
        | succ k =>
          rw [get_succ, get_succ]
          cases hk : Nat.beq (k % 2) 0 with
          | true =>
            have hk' : k % 2 = 0 := Nat.eq_of_beq_eq_true hk
            change (setF x f (m / 2) t.left).get (k / 2) = if k + 1 = m + 1 then some x else t.left.get (k / 2)
            rw [get_setF x f (m / 2) t.left (k / 2) (by omega)]
            by_cases e : k = m
            · subst e; simp
            · have : k / 2 ≠ m / 2 := by omega
              simp [e, this]
          | false =>
            have hk' : k % 2 ≠ 0 := Nat.ne_of_beq_eq_false hk
            have : k ≠ m := fun e => hk' (e ▸ hm')
            simp [cond, right, this]
      | false =>
        have hm' : m % 2 ≠ 0 := Nat.ne_of_beq_eq_false hm
        simp only [cond]
        cases k with
        | zero => simp [get_zero, val]
        | succ k =>
          rw [get_succ, get_succ]
          cases hk : Nat.beq (k % 2) 0 with
          | true =>
            have hk' : k % 2 = 0 := Nat.eq_of_beq_eq_true hk
            have : k ≠ m := fun e => hm' (e ▸ hk')
            simp [cond, left, this]
          | false =>
            have hk' : k % 2 ≠ 0 := Nat.ne_of_beq_eq_false hk
            change (setF x f (m / 2) t.right).get (k / 2) = if k + 1 = m + 1 then some x else t.right.get (k / 2)
            rw [get_setF x f (m / 2) t.right (k / 2) (by omega)]
            by_cases e : k = m
            · subst e; simp
            · have : k / 2 ≠ m / 2 := by omega
              simp [e, this]
theorem get_set (t : Tr α) (n : Nat) (x : α) (k : Nat) : (t.set n x).get k = if k = n then some x else t.get k :=
  get_setF x n n t k (Nat.le_refl _)
 @[simp] theorem get_set_same (t : Tr α) (n : Nat) (x : α) : (t.set n x).get n = some x := by simp [get_set]
theorem get_set_ne (t : Tr α) (n : Nat) (x : α) (k : Nat) (h : k ≠ n) : (t.set n x).get k = t.get k := by simp [get_set, h]
end Tr

/- ### values -/
structure Loc where
  b : Nat
  o : Nat
  deriving DecidableEq

inductive AV where
  | top
  | bool (b : Bool)
  | int (k : IntKind) (n : Int)
  | str (s : List UInt8)
  | ptr (a : Option Loc)
  | snil
  | szero
  | sl (b o len es : Nat)
  | map (r : Option Nat)
  | func (fn : Fn) (first captured : List AV)
  | nilFunc
  | iface (t : TypeId) (v : AV)
  | nilIface
  | agg (cs : List AV)
  | tuple (vs : List AV)
  deriving Inhabited

def undefA : AV := .tuple []

/- equality of values, as far as it is asked -/
mutual
def AV.beq : AV → AV → Bool
  | .top, .top => true
  | .bool a, .bool b => a == b
  | .int k a, .int l b => k == l && a == b
  | .str a, .str b => a == b
  | .ptr a, .ptr b => a == b
  | .snil, .snil => true
  | .szero, .szero => true
  | .sl a b c d, .sl a' b' c' d' => Nat.beq a a' && Nat.beq b b' && Nat.beq c c' && Nat.beq d d'
  | .map a, .map b => a == b
  | .nilFunc, .nilFunc => true
  | .nilIface, .nilIface => true
  | .iface t v, .iface u w => Nat.beq t u && v.beq w
  | .func f a c, .func g b d => f == g && AV.beqs a b && AV.beqs c d
  | .agg a, .agg b => AV.beqs a b
  | .tuple a, .tuple b => AV.beqs a b
  | _, _ => false
def AV.beqs : List AV → List AV → Bool
  | [], [] => true
  | a :: as, b :: bs => a.beq b && AV.beqs as bs
  | _, _ => false
end

mutual
theorem AV.beq_eq : ∀ (a b : AV), a.beq b = true → a = b := fun a b h => by
  cases a <;> cases b <;> simp only [AV.beq, Bool.and_eq_true, beq_iff_eq, Bool.false_eq_true] at h <;> try (first | rfl | (simp_all; done))
  case func.func f a c g b d => obtain ⟨⟨h1, h2⟩, h3⟩ := h; rw [h1, AV.beqs_eq _ _ h2, AV.beqs_eq _ _ h3]
  case iface.iface t v u w => obtain ⟨h1, h2⟩ := h; rw [Nat.eq_of_beq_eq_true h1, AV.beq_eq _ _ h2]
  case agg.agg a b => rw [AV.beqs_eq _ _ h]
  case tuple.tuple a b => rw [AV.beqs_eq _ _ h]
theorem AV.beqs_eq : ∀ (a b : List AV), AV.beqs a b = true → a = b := fun a b h => by
  cases a <;> cases b <;> simp only [AV.beqs, Bool.and_eq_true, Bool.false_eq_true] at h <;> try rfl
  case cons.cons a as b bs => rw [AV.beq_eq _ _ h.1, AV.beqs_eq _ _ h.2]
end

mutual
theorem AV.beq_self : ∀ (a : AV), a.beq a = true := fun a => by
  cases a <;> simp only [AV.beq, beq_self_eq_true, Bool.and_self, Nat.beq_refl] <;> try rfl
  case func f a c => rw [AV.beqs_self a, AV.beqs_self c]; rfl
  case iface t v => rw [AV.beq_self v]; rfl
  case agg a => exact AV.beqs_self a
  case tuple a => exact AV.beqs_self a
theorem AV.beqs_self : ∀ (a : List AV), AV.beqs a a = true := fun a => by
  cases a with
  | nil => rfl
  | cons x xs => simp only [AV.beqs]; rw [AV.beq_self x, AV.beqs_self xs]; rfl
end

/- ### the heap -/
inductive AObj where
  | solo (cs : List AV)
  | ro (cs : List AV)
  | row (cs : List AV) (fam ver : Nat)
  | map (es : List (AV × AV))

structure AHeap where
  next : Nat
  objs : Tr AObj
  fams : Tr (Nat × Nat)

/- the cells of a block that may be read -/
def AHeap.cells (h : AHeap) (b : Nat) : Option (List AV) :=
  match h.objs.get b with
  | some (.solo cs) => some cs
  | some (.ro cs) => some cs
  | some (.row cs f v) => match h.fams.get f with
    | some (_, lo) => cond (Nat.ble lo v) (some cs) none
    | none => none
  | _ => none

inductive Res (α : Type) where
  | ok (a : α) (h : AHeap)
  | pan (v : AV) (h : AHeap)
  | bad

def AM (α : Type) : Type := AHeap → Res α

namespace AM
variable {α β : Type}
def ret (a : α) : AM α := fun h => .ok a h
def bind (m : AM α) (f : α → AM β) : AM β := fun h => match m h with
  | .ok a h' => f a h'
  | .pan v h' => .pan v h'
  | .bad => .bad
def bad : AM α := fun _ => .bad
instance : Monad AM where
  pure := ret
  bind := bind
theorem bind_assoc {γ : Type} (m : AM α) (f : α → AM β) (g : β → AM γ) : bind (bind m f) g = bind m fun a => bind (f a) g := by
  funext h; simp only [bind]; cases m h <;> rfl
theorem ret_bind (a : α) (f : α → AM β) : bind (ret a) f = f a := rfl
theorem bad_bind (f : α → AM β) : bind (bad : AM α) f = bad := rfl
end AM

/- ### memory -/
section
def getH : AM AHeap := fun h => .ok h h
def ofOpt {α : Type} (x : Option α) : AM α := match x with
  | some a => .ret a
  | none => .bad

/- a value that one cell can hold -/
def AV.isCell : AV → Bool
  | .top | .agg _ | .tuple _ => false
  | _ => true
/- the cells of a value; nothing where they are not known -/
def AV.cells? : AV → Option (List AV)
  | .top => none
  | .agg cs => some cs
  | .tuple _ => none
  | v => some [v]

def rdN (h : AHeap) (b o n : Nat) : Option (List AV) :=
  match h.cells b with
  | some cs => match (cs.drop o).take n with
    | l => cond (Nat.beq l.length n) (some l) none
  | none => none

def ld (p : AV) : AM AV := fun h => match p with
  | .ptr (some ⟨b, o⟩) => match h.cells b with
    | some cs => match cs[o]? with
      | some v => .ok v h
      | none => .bad
    | none => .bad
  | _ => .bad
def ldN (n : Nat) (p : AV) : AM AV := fun h => match p with
  | .ptr (some ⟨b, o⟩) => match rdN h b o n with
    | some l => .ok (.agg l) h
    | none => .bad
  | _ => .bad

/- writing xs over the cells of block b from o on -/
def over (cs : List AV) (o : Nat) (xs : List AV) : List AV := cs.take o ++ (xs ++ cs.drop (o + xs.length))
def wr (b o : Nat) (xs : List AV) (h : AHeap) : Option AHeap :=
  match h.objs.get b with
  | some (.solo cs) => cond (Nat.ble (o + xs.length) cs.length) (some { h with objs := h.objs.set b (.solo (over cs o xs)) }) none
  | some (.row cs f v) => match h.fams.get f with
    | some (top, _) => cond (Nat.beq top v && Nat.ble (o + xs.length) cs.length)
        (some { h with objs := h.objs.set b (.row (over cs o xs) f v), fams := h.fams.set f (top, top) }) none
    | none => none
  | _ => none
def st (p v : AV) : AM Unit := fun h => match p with
  | .ptr (some ⟨b, o⟩) => cond v.isCell (match wr b o [v] h with
    | some h' => .ok () h'
    | none => .bad) .bad
  | _ => .bad
def stN (n : Nat) (p v : AV) : AM Unit := fun h => match p, v with
  | .ptr (some ⟨b, o⟩), .agg cs => cond (Nat.beq cs.length n && cs.all AV.isCell) (match wr b o cs h with
    | some h' => .ok () h'
    | none => .bad) .bad
  | _, _ => .bad

/- a new variable -/
def nw (cs : List AV) : AM AV := fun h => cond (cs.all AV.isCell)
  (.ok (.ptr (some ⟨h.next, 0⟩)) { h with next := h.next + 1, objs := h.objs.set h.next (.solo cs) }) .bad
/- a new array of a slice's own, n elements of es cells -/
def nwRow (cs : List AV) (n es : Nat) : AM AV := fun h => cond (cs.all AV.isCell && Nat.ble (n * es) cs.length && Nat.ble 1 es)
  (.ok (.sl h.next 0 n es) { next := h.next + 1, objs := h.objs.set h.next (.row cs h.next 0), fams := h.fams.set h.next (0, 0) }) .bad

/- the cells of a slice -/
def slCells (h : AHeap) : AV → Option (List AV)
  | .snil => some []
  | .szero => some []
  | .sl b o n es => rdN h b o (n * es)
  | _ => none
def slLen : AV → Option Nat
  | .snil => some 0
  | .szero => some 0
  | .sl _ _ n _ => some n
  | .str s => some s.length
  | _ => none
def maxLenA : Nat := 1073741824

def byteCells (s : List UInt8) : List AV := s.map fun c => .int .u8 c.toNat

/- what is appended: its number of elements and its cells -/
def srcCells (h : AHeap) (es : Nat) : AV → Option (Nat × List AV)
  | .snil => some (0, [])
  | .szero => some (0, [])
  | .sl b o n es' => cond (Nat.beq es es') (match rdN h b o (n * es) with
    | some l => some (n, l)
    | none => none) none
  | .str s => cond (Nat.beq es 1) (some (s.length, byteCells s)) none
  | _ => none

def apnd (es : Nat) (s x : AV) : AM AV := fun h => match srcCells h es x with
  | none => .bad
  | some (0, _) => match s with
    | .snil | .szero | .sl .. => .ok s h
    | _ => .bad
  | some (m + 1, xs) => match s with
    | .snil | .szero => cond (Nat.ble (m + 1) maxLenA) (nwRow xs (m + 1) es h) .bad
    | .sl b o n es' => match h.objs.get b with
      | some (.row cs f v) => match h.fams.get f with
        | some (top, lo) =>
          cond (Nat.beq es es' && Nat.ble 1 es && Nat.ble lo v && Nat.ble (o + n * es) cs.length && Nat.ble (n + (m + 1)) maxLenA && xs.all AV.isCell)
            (cond (Nat.beq v top && Nat.beq (o + n * es) cs.length)
              (.ok (.sl h.next 0 (n + (m + 1)) es) { next := h.next + 1, objs := h.objs.set h.next (.row (cs.drop o ++ xs) f (top + 1)), fams := h.fams.set f (top + 1, lo) })
              (.ok (.sl h.next 0 (n + (m + 1)) es) { next := h.next + 1, objs := h.objs.set h.next (.row ((cs.drop o).take (n * es) ++ xs) f (top + 1)), fams := h.fams.set f (top + 1, top + 1) }))
            .bad
        | none => .bad
      | _ => .bad
    | _ => .bad

/- its first k elements -/
def truncA (k : Nat) : AV → AV
  | .sl b o _ es => .sl b o k es
  | .str s => .str (s.take k)
  | x => x
def cpy (es : Nat) (d x : AV) : AM AV := fun h => match slLen d, slLen x with
  | some n, some m => match Nat.min m n with
    | 0 => .ok (.int .i64 0) h
    | k + 1 => match srcCells h es (truncA (k + 1) x) with
      | some (_, xs) => match d with
        | .sl b o _ es' => cond (Nat.beq es es' && xs.all AV.isCell) (match wr b o xs h with
          | some h' => .ok (.int .i64 (Int.ofNat (k + 1))) h'
          | none => .bad) .bad
        | _ => .bad
      | none => .bad
  | _, _ => .bad
end
end Go.Am
/- The abstract machine: operations. -/
namespace Go.Am

/- ### constants -/
mutual
def absV : Value → AV
  | .bool b => .bool b
  | .int k n => .int k n
  | .string s => .str s.data.toList
  | .pointer none => .ptr none
  | .slice none 0 0 => .snil
  | .map none => .map none
  | .func (.func f) ⟨[]⟩ ⟨[]⟩ => .func (.func f) [] []
  | .nilFunc => .nilFunc
  | .nilIface => .nilIface
  | .agg ⟨cs⟩ => .agg (absVs cs)
  | .tuple ⟨cs⟩ => .tuple (absVs cs)
  | _ => .top
def absVs : List Value → List AV
  | [] => []
  | v :: vs => absV v :: absVs vs
end

/- ### numbers -/
def inI64 : Int → Bool
  | .ofNat m => Nat.ble m 9223372036854775807
  | .negSucc m => Nat.ble m 9223372036854775807
def wrapA (k : IntKind) (n : Int) : Int :=
  match k with
  | .i64 => cond (inI64 n) n (IntKind.wrap .i64 n)
  | .u8 => match n with
    | .ofNat m => .ofNat (m % 256)
    | n => IntKind.wrap .u8 n
  | k => IntKind.wrap k n

def bitsA (op : BinOp) (k : IntKind) (x y : Int) : Option AV :=
  let a := BitVec.ofInt k.bits x
  let b := BitVec.ofInt k.bits y
  match op with
  | .and => some (.int k (k.wrap (a &&& b).toNat))
  | .or => some (.int k (k.wrap (a ||| b).toNat))
  | .xor => some (.int k (k.wrap (a ^^^ b).toNat))
  | .andNot => some (.int k (k.wrap (a &&& ~~~b).toNat))
  | _ => none

def intBin (op : BinOp) (k : IntKind) (a b : Int) : Option AV :=
  match op with
  | .add => some (.int k (wrapA k (a + b)))
  | .sub => some (.int k (wrapA k (a - b)))
  | .mul => some (.int k (wrapA k (a * b)))
  | .quo => cond (b == 0) none (some (.int k (wrapA k (a.tdiv b))))
  | .rem => cond (b == 0) none (some (.int k (a.tmod b)))
  | .eql => some (.bool (a == b))
  | .neq => some (.bool (a != b))
  | .lss => some (.bool (decide (a < b)))
  | .leq => some (.bool (decide (a ≤ b)))
  | .gtr => some (.bool (decide (a > b)))
  | .geq => some (.bool (decide (a ≥ b)))
  | .and | .or | .xor | .andNot => bitsA op k a b
  | _ => none
def shiftA (op : BinOp) (k : IntKind) (x y : Int) : Option AV :=
  cond (decide (y < 0)) none (match op with
    | .shl => some (.int k (k.wrap (x * 2 ^ (min y.toNat k.bits))))
    | .shr => some (.int k (x.fdiv (2 ^ (min y.toNat k.bits))))
    | _ => none)
def strBin (op : BinOp) (a b : List UInt8) : Option AV :=
  match op with
  | .add => cond (Nat.ble (a.length + b.length) maxLenA) (some (.str (a ++ b))) none
  | .eql => some (.bool (a == b))
  | .neq => some (.bool (!(a == b)))
  | .lss => some (.bool (Op.bytesLess a b))
  | .leq => some (.bool (Op.bytesLess a b || a == b))
  | .gtr => some (.bool (!(Op.bytesLess a b || a == b)))
  | .geq => some (.bool (!Op.bytesLess a b))
  | _ => none

/- a type whose values are compared cell by cell: bools (0), numbers (1), texts (2), and structs of these laid without gaps -/
def leafF (leaf : TypeId → Option (List Nat)) : Nat → List Field → Option (List Nat)
  | _, [] => some []
  | off, f :: fs => cond (Nat.beq f.offset off && f.name != "_") (match leaf f.type with
    | some l => match leafF leaf (off + l.length) fs with
      | some r => some (l ++ r)
      | none => none
    | none => none) none
def leafT (P : Program) : Nat → TypeId → Option (List Nat)
  | 0, _ => none
  | d + 1, t => match P.underlying t with
    | some .bool => some [0]
    | some (.int _) => some [1]
    | some .string => some [2]
    | some (.struct fs) => match leafF (leafT P d) 0 fs.toList with
      | some l => cond (!P.stoodInHeld t && (Nat.beq l.length (P.cellsOf t) && Nat.ble 1 l.length)) (some l) none
      | none => none
    | _ => none

/- one cell against one cell -/
def cellEq : Nat → AV → AV → Option Bool
  | 0, .bool a, .bool b => some (a == b)
  | 1, .int k a, .int l b => cond (k == l) (some (a == b)) none
  | 2, .str a, .str b => some (a == b)
  | _, _, _ => none
def cellsEq : List Nat → List AV → List AV → Option Bool
  | [], [], [] => some true
  | t :: ts, a :: as, b :: bs => match cellEq t a b, cellsEq ts as bs with
    | some x, some y => some (x && y)
    | _, _ => none
  | _, _, _ => none

def eqA (P : Program) (t : TypeId) : AV → AV → Option Bool
  | .bool a, .bool b => match P.underlying t with
    | some .bool => some (a == b)
    | _ => none
  | .ptr none, .ptr b => match P.underlying t with
    | some (.pointer _) => some b.isNone
    | _ => none
  | .ptr (some _), .ptr none => match P.underlying t with
    | some (.pointer _) => some false
    | _ => none
  | .snil, .snil => match P.underlying t with
    | some (.slice _) => some true
    | _ => none
  | .snil, .szero | .szero, .snil | .snil, .sl .. | .sl .., .snil => match P.underlying t with
    | some (.slice _) => some false
    | _ => none
  | .map none, .map b => match P.underlying t with
    | some (.map _ _) => some b.isNone
    | _ => none
  | .map (some _), .map none => match P.underlying t with
    | some (.map _ _) => some false
    | _ => none
  | .nilFunc, .nilFunc => match P.underlying t with
    | some (.func ..) => some true
    | _ => none
  | .nilFunc, .func .. | .func .., .nilFunc => match P.underlying t with
    | some (.func ..) => some false
    | _ => none
  | .nilIface, .iface .. | .iface .., .nilIface => match P.underlying t with
    | some (.interface _) => some false
    | _ => none
  | .agg a, .agg b => match P.underlying t, leafT P 8 t with
    | some (.struct _), some ls => cellsEq ls a b
    | _, _ => none
  | _, _ => none

def eqC (P : Program) (c : Bool) (t : TypeId) (x y : AV) : Option Bool := match x, y with
  | .nilIface, .nilIface => match P.underlying t with
    | some (.interface _) => cond c (some true) none
    | _ => none
  | x, y => eqA P t x y
/- c: one of the two is written as a constant -/
def binA (P : Program) (op : BinOp) (t : TypeId) (c : Bool) (x y : AV) : Option AV :=
  match op, x, y with
  | .shl, .int k a, .int _ b | .shr, .int k a, .int _ b => shiftA op k a b
  | _, .int k a, .int l b => cond (k == l) (intBin op k a b) none
  | _, .str a, .str b => strBin op a b
  | .eql, x, y => match eqC P c t x y with
    | some b => some (.bool b)
    | none => none
  | .neq, x, y => match eqC P c t x y with
    | some b => some (.bool (!b))
    | none => none
  | _, _, _ => none

def unA (op : UnOp) (x : AV) : Option AV :=
  match op, x with
  | .neg, .int k n => some (.int k (wrapA k (0 - n)))
  | .xor, .int k n => bitsA .xor k (if k.signed then -1 else k.max) n
  | .not, .bool b => some (.bool !b)
  | _, _ => none

/- ### tables -/
def zeroA (P : Program) (t : TypeId) : Option AV := match P.info? t with
  | some i => match i.zero with
    | some v => some (absV v)
    | none => none
  | none => none
def zeroCellsA (P : Program) (t : TypeId) : Option (List AV) := match zeroA P t with
  | some z => match z.cells? with
    | some cs => cond (Nat.beq cs.length (P.cellsOf t) && cs.all AV.isCell) (some cs) none
    | none => none
  | none => none
def bytesOK (P : Program) (t : TypeId) : Bool := Nat.ble (P.bytesOf t) 4096

def fillA (place : Nat → Option (Nat × Nat)) (cells : List AV) : List (Nat × AV) → Option (List AV)
  | [] => some cells
  | (i, v) :: rest => match place i with
    | none => none
    | some (off, size) => match v.cells? with
      | none => none
      | some vs => cond (Nat.beq vs.length size && Nat.ble (off + vs.length) cells.length) (fillA place (over cells off vs) rest) none

def evParts (ev : Operand → AV) (ps : Array (Nat × Operand)) : List (Nat × AV) := ps.toList.map fun (i, x) => (i, ev x)

def placesA (P : Program) (fs : List Field) : Option (List (Nat × Nat)) :=
  cond (fs.all fun f => Nat.ble 1 (P.cellsOf f.type)) (some (fs.map fun f => (f.offset, P.cellsOf f.type))) none

def buildA (P : Program) (t : TypeId) (ps : List (Nat × AV)) : Option AV :=
  match zeroCellsA P t with
  | none => none
  | some zero => match P.underlying t with
    | some (.struct fs) => match placesA P fs.toList with
      | some pl => match fillA (pl[·]?) zero ps with
        | some cs => some (.agg cs)
        | none => none
      | none => none
    | some (.array _ elem) => cond (Nat.ble 1 (P.cellsOf elem)) (match fillA (fun i => some (i * P.cellsOf elem, P.cellsOf elem)) zero ps with
        | some cs => some (.agg cs)
        | none => none) none
    | _ => none

def repA (zero : List AV) : Nat → List AV
  | 0 => []
  | n + 1 => zero ++ repA zero n

def buildSliceA (P : Program) (t : TypeId) (n : Nat) (ps : List (Nat × AV)) : AM AV :=
  match P.underlying t with
  | some (.slice elem) =>
    cond (Nat.ble 1 (P.cellsOf elem) && Nat.ble (n * P.cellsOf elem) 16777216)
      (match zeroCellsA P elem with
      | some zero => match fillA (fun i => some (i * P.cellsOf elem, P.cellsOf elem)) (repA zero n) ps with
        | some cs => match n with
          | 0 => .ret .szero
          | n + 1 => nwRow cs (n + 1) (P.cellsOf elem)
        | none => .bad
      | none => .bad) .bad
  | _ => .bad

def makeSliceA (P : Program) (t : TypeId) (l c : AV) : AM AV :=
  match P.underlying t, l, c with
  | some (.slice elem), .int _ l, .int _ c =>
    cond (decide (0 ≤ l) && decide (l ≤ c) && decide (c ≤ 1073741824) && Nat.ble 1 (P.cellsOf elem) && bytesOK P elem)
      (match zeroCellsA P elem with
      | some zero => match c.toNat with
        | 0 => .ret .szero
        | n + 1 => nwRow (repA zero (n + 1)) l.toNat (P.cellsOf elem)
      | none => .bad) .bad
  | _, _, _ => .bad

/- ### addresses -/
def faddr (k : Nat) : AV → AM AV
  | .ptr (some ⟨b, o⟩) => .ret (.ptr (some ⟨b, o + k⟩))
  | _ => .bad
def fieldAddrA (P : Program) (s : TypeId) (x : AV) (f : Nat) : AM AV :=
  match P.underlying s with
  | some (.struct fs) => match fs[f]? with
    | some fd => cond (Nat.ble 1 (P.cellsOf fd.type)) (faddr fd.offset x) .bad
    | none => .bad
  | _ => .bad
def iaddrS (es : Nat) (x i : AV) : AM AV :=
  match x, i with
  | .sl b o n es', .int _ i => cond (Nat.beq es es' && decide (0 ≤ i) && decide (i < Int.ofNat n)) (.ret (.ptr (some ⟨b, o + i.toNat * es⟩))) .bad
  | _, _ => .bad
def iaddrA (len es : Nat) (x i : AV) : AM AV :=
  match x, i with
  | .ptr (some ⟨b, o⟩), .int _ i => cond (decide (0 ≤ i) && decide (i < Int.ofNat len)) (.ret (.ptr (some ⟨b, o + i.toNat * es⟩))) .bad
  | _, _ => .bad
def indexAddrA (P : Program) (t : TypeId) (x i : AV) : AM AV :=
  match P.underlying t with
  | some (.slice e) => cond (Nat.ble 1 (P.cellsOf e)) (iaddrS (P.cellsOf e) x i) .bad
  | some (.array n e) => cond (Nat.ble 1 (P.cellsOf e)) (iaddrA n (P.cellsOf e) x i) .bad
  | _ => .bad
def sIdx (s i : AV) : AM AV :=
  match s, i with
  | .str s, .int _ (.ofNat i) => match s[i]? with
    | some c => .ret (.int .u8 (Int.ofNat c.toNat))
    | none => .bad
  | _, _ => .bad
/- part of an aggregate: one cell, or some -/
def part1 (o : Nat) : AV → AM AV
  | .agg cs => match cs[o]? with
    | some v => .ret v
    | none => .bad
  | _ => .bad
def partN (o n : Nat) : AV → AM AV
  | .agg cs => .ret (.agg ((cs.drop o).take n))
  | _ => .bad
def isAggT (P : Program) (t : TypeId) : Option Bool := match P.underlying t with
  | some (.struct _) => some true
  | some (.array _ _) => some true
  | some _ => some false
  | none => none
def partA (P : Program) (t : TypeId) (o : Nat) (x : AV) : AM AV := match isAggT P t with
  | some true => cond (Nat.ble 1 (P.cellsOf t)) (partN o (P.cellsOf t) x) .bad
  | some false => part1 o x
  | none => .bad
def indexA (P : Program) (t : TypeId) (x i : AV) : AM AV :=
  match P.underlying t with
  | some .string => sIdx x i
  | some (.array n e) => match i with
    | .int _ i => cond (decide (0 ≤ i) && decide (i < Int.ofNat n) && Nat.ble 1 (P.cellsOf e)) (partA P e (i.toNat * P.cellsOf e) x) .bad
    | _ => .bad
  | _ => .bad
def fieldA (P : Program) (t : TypeId) (x : AV) (f : Nat) : AM AV :=
  match P.underlying t with
  | some (.struct fs) => match fs[f]? with
    | some fd => partA P fd.type fd.offset x
    | none => .bad
  | _ => .bad

/- ### slices -/
def boundA (dflt : Nat) : Option AV → Option Nat
  | none => some dflt
  | some (.int _ (.ofNat i)) => some i
  | _ => none
def sliceStr (s : List UInt8) (lo hi : Option AV) : AM AV :=
  match boundA s.length hi, boundA 0 lo with
  | some h, some l => cond (Nat.ble h s.length && Nat.ble l h) (.ret (.str ((s.drop l).take (h - l)))) .bad
  | _, _ => .bad
def sliceSl (x : AV) (lo hi mx : Option AV) : AM AV :=
  match x with
  | .snil => match boundA 0 hi, boundA 0 lo, boundA 0 mx with
    | some 0, some 0, some 0 => .ret .snil
    | _, _, _ => .bad
  | .szero => match boundA 0 hi, boundA 0 lo, boundA 0 mx with
    | some 0, some 0, some 0 => .ret .szero
    | _, _, _ => .bad
  | .sl b o n es => match boundA n mx, boundA n hi, boundA 0 lo with
    | some m, some h, some l => cond (Nat.ble m n && Nat.ble h m && Nat.ble l h)
        (match mx with
        | none => .ret (.sl b (o + l * es) (h - l) es)
        | some _ => match m - l with
          | 0 => .ret .szero
          | _ + 1 => .ret (.sl b (o + l * es) (h - l) es)) .bad
    | _, _, _ => .bad
  | _ => .bad
def sliceArr (len es : Nat) (x : AV) (lo hi : Option AV) : AM AV := fun hp =>
  match x with
  | .ptr (some ⟨b, o⟩) => match boundA len hi, boundA 0 lo with
    | some h, some l => cond (Nat.ble h len && Nat.ble l h) (match rdN hp b o (len * es) with
      | some _ => .ok (.sl b (o + l * es) (h - l) es) hp
      | none => .bad) .bad
    | _, _ => .bad
  | _ => .bad
def sliceA (P : Program) (t : TypeId) (x : AV) (lo hi mx : Option AV) : AM AV :=
  match P.underlying t with
  | some .string => match x, mx with
    | .str s, none => sliceStr s lo hi
    | _, _ => .bad
  | some (.slice e) => cond (mx.isSome && hi.isNone) .bad (match x with
    | .sl b o n es => cond (Nat.beq es (P.cellsOf e)) (sliceSl (.sl b o n es) lo hi mx) .bad
    | x => cond (Nat.ble 1 (P.cellsOf e)) (sliceSl x lo hi mx) .bad)
  | some (.array n e) => match mx with
    | none => cond (Nat.ble 1 (P.cellsOf e)) (sliceArr n (P.cellsOf e) x lo hi) .bad
    | some _ => .bad
  | _ => .bad

/- ### conversions -/
def bytesOf? : List AV → Option (List UInt8)
  | [] => some []
  | .int .u8 n :: r => match bytesOf? r with
    | some l => some (UInt8.ofNat n.toNat :: l)
    | none => none
  | _ => none
def toStr (x : AV) : AM AV := fun h => match slCells h x with
  | some cs => match bytesOf? cs with
    | some l => .ok (.str l) h
    | none => .bad
  | none => .bad
/- a slice whose array is the call's own -/
def ownRow (x : AV) : AM AV := fun h => match x with
  | .sl b _ _ _ => match h.objs.get b with
    | some (.row ..) => .ok x h
    | _ => .bad
  | _ => .bad
def isU8 (P : Program) (e : TypeId) : Bool := match P.underlying e with
  | some (.int .u8) => true
  | _ => false
def convA (P : Program) (src dst : TypeId) (x : AV) : AM AV :=
  match x with
  | .int _ n => match P.underlying src, P.underlying dst with
    | some _, some (.int k) => .ret (.int k (wrapA k n))
    | _, _ => .bad
  | .str s => match P.underlying src, P.underlying dst with
    | some _, some .string => .ret (.str s)
    | some _, some (.slice e) => cond (isU8 P e) (nwRow (byteCells s) s.length 1) .bad
    | _, _ => .bad
  | .snil => match P.underlying src, P.underlying dst with
    | some (.slice e), some .string => cond (isU8 P e) (toStr .snil) .bad
    | _, _ => .bad
  | .szero => match P.underlying src, P.underlying dst with
    | some (.slice e), some .string => cond (isU8 P e) (toStr .szero) .bad
    | _, _ => .bad
  | .sl b o n es => match P.underlying src, P.underlying dst with
    | some (.slice e), some .string => cond (isU8 P e && Nat.beq es 1) (toStr (.sl b o n es)) .bad
    | some (.slice _), some (.slice e) => cond (isU8 P e && Nat.beq src dst) (ownRow (.sl b o n es)) .bad
    | _, _ => .bad
  | _ => .bad

/- ### maps -/
def keyEq (P : Program) (t : TypeId) (a b : AV) : Option Bool :=
  match P.underlying t, a, b with
  | some (.int _), .int k x, .int l y => cond (k == l) (some (x == y)) none
  | some .string, .str x, .str y => some (x == y)
  | some (.struct _), .agg x, .agg y => match leafT P 8 t with
    | some ls => cellsEq ls x y
    | none => none
  | _, _, _ => none
/- where a key stands -/
def findA (P : Program) (t : TypeId) (k : AV) : List (AV × AV) → Nat → Option (Option (Nat × AV))
  | [], _ => some none
  | (k', v) :: r, i => match keyEq P t k k' with
    | some true => some (some (i, v))
    | some false => findA P t k r (i + 1)
    | none => none
/- may this value be a key at all -/
def keyOK (P : Program) (t : TypeId) (k : AV) : Bool :=
  match P.underlying t, k with
  | some (.int _), .int _ _ => true
  | some .string, .str _ => true
  | some (.struct _), .agg x => match leafT P 8 t with
    | some ls => (cellsEq ls x x).isSome
    | none => false
  | _, _ => false
def mapOf (h : AHeap) : AV → Option (List (AV × AV))
  | .map none => some []
  | .map (some r) => match h.objs.get r with
    | some (.map es) => some es
    | _ => none
  | _ => none
def lookA (P : Program) (t : TypeId) (x k : AV) (ok : Bool) : AM AV := fun h =>
  match P.underlying t with
  | some (.map kt et) => match mapOf h x with
    | some es => cond (keyOK P kt k) (match findA P kt k es 0 with
      | some (some (_, v)) => .ok (cond ok (.tuple [v, .bool true]) v) h
      | some none => match zeroA P et with
        | some z => .ok (cond ok (.tuple [z, .bool false]) z) h
        | none => .bad
      | none => .bad) .bad
    | none => .bad
  | _ => .bad
def setAt {α : Type} (l : List α) (i : Nat) (x : α) : List α := l.set i x
def mupdA (P : Program) (t : TypeId) (m k v : AV) : AM Unit := fun h =>
  match P.underlying t, m with
  | some (.map kt _), .map (some r) => match h.objs.get r with
    | some (.map es) => cond (keyOK P kt k) (match findA P kt k es 0 with
      | some (some (i, _)) => .ok () { h with objs := h.objs.set r (.map (setAt es i (k, v))) }
      | some none => .ok () { h with objs := h.objs.set r (.map (es ++ [(k, v)])) }
      | none => .bad) .bad
    | _ => .bad
  | _, _ => .bad
def mdelA (P : Program) (t : TypeId) (m k : AV) : AM AV := fun h =>
  match P.underlying t, m with
  | some (.map kt _), .map none => cond (keyOK P kt k) (.ok undefA h) .bad
  | some (.map kt _), .map (some r) => match h.objs.get r with
    | some (.map es) => cond (keyOK P kt k) (match findA P kt k es 0 with
      | some (some (i, _)) => .ok undefA { h with objs := h.objs.set r (.map (es.eraseIdx i)) }
      | some none => .ok undefA h
      | none => .bad) .bad
    | _ => .bad
  | _, _ => .bad
def nwMap : AM AV := fun h => .ok (.map (some h.next)) { h with next := h.next + 1, objs := h.objs.set h.next (.map []) }

def lenA (P : Program) (t : TypeId) (x : AV) : AM AV := fun h =>
  match P.underlying t with
  | some .string => match x with
    | .str s => .ok (.int .i64 (Int.ofNat s.length)) h
    | _ => .bad
  | some (.slice _) => match x with
    | .snil => .ok (.int .i64 0) h
    | .szero => .ok (.int .i64 0) h
    | .sl _ _ n _ => .ok (.int .i64 (Int.ofNat n)) h
    | _ => .bad
  | some (.array n _) => .ok (.int .i64 (Int.ofNat n)) h
  | some (.pointer a) => match P.underlying a with
    | some (.array n _) => .ok (.int .i64 (Int.ofNat n)) h
    | _ => .bad
  | some (.map _ _) => match mapOf h x with
    | some es => .ok (.int .i64 (Int.ofNat es.length)) h
    | none => .bad
  | _ => .bad
def minA : AV → List AV → Option AV
  | x, [] => some x
  | .int k x, .int _ y :: r => minA (.int k (cond (decide (y < x)) y x)) r
  | _, _ => none
def maxA : AV → List AV → Option AV
  | x, [] => some x
  | .int k x, .int _ y :: r => maxA (.int k (cond (decide (y > x)) y x)) r
  | _, _ => none

def clearA (P : Program) (t : TypeId) (x : AV) : AM AV :=
  match P.underlying t, x with
  | some (.slice _), .snil => .ret undefA
  | some (.slice _), .szero => .ret undefA
  | some (.slice e), .sl b o n es => fun h => cond (Nat.beq es (P.cellsOf e)) (match n with
    | 0 => .ok undefA h
    | n + 1 => match zeroCellsA P e with
      | some z => match wr b o (repA z (n + 1)) h with
        | some h' => .ok undefA h'
        | none => .bad
      | none => .bad) .bad
  | _, _ => .bad

/- ### one operation -/
def evalO (env : List AV) : Operand → AV
  | .tmp t => env.getD t undefA
  | .const v => absV v
  | .global g => .ptr (some ⟨g, 0⟩)
  | .func f => .func (.func f) [] []

def isC : Operand → Bool
  | .const _ => true
  | _ => false

/- 'recover' is asked as a call of this number -/
def recId : Nat := 4294967295
def callA (C : FuncId → List AV → AM AV) (f : AV) (args : List AV) : AM AV :=
  match f with
  | .func (.func g) first captured => cond (Nat.beq g recId) .bad (C g (first ++ (args ++ captured)))
  | _ => .bad

def unit2 (m : AM Unit) : AM AV := .bind m fun _ => .ret undefA

def elemOfT (P : Program) (t : TypeId) : Option TypeId := match P.underlying t with
  | some (.slice e) => some e
  | _ => none

/- what may be appended: a slice, a text -/
def isSrc (P : Program) (t : TypeId) : Bool := match P.underlying t with
  | some (.slice _) => true
  | some .string => true
  | _ => false

def isStr : AV → Bool
  | .str _ => true
  | _ => false
def builtinA (P : Program) (C : FuncId → List AV → AM AV) (b : Builtin) (ts : Array TypeId) (args : List AV) : AM AV :=
  match b, args with
  | .recover, [] => C recId []
  | .len, [x] => match ts[0]? with
    | some t => lenA P t x
    | none => .bad
  | .append, [s, x] => match ts.toList with
    | [t, t1] => match elemOfT P t with
      | some e => cond (isSrc P t1 && bytesOK P e && Nat.ble 1 (P.cellsOf e) && (zeroCellsA P e).isSome) (apnd (P.cellsOf e) s x) .bad
      | none => .bad
    | _ => .bad
  | .copy, [d, x] => match ts[0]? with
    | some t => match elemOfT P t with
      | some e => cond (Nat.ble 1 (P.cellsOf e) && !isStr d) (cpy (P.cellsOf e) d x) .bad
      | none => .bad
    | none => .bad
  | .min, x :: r => ofOpt (minA x r)
  | .max, x :: r => ofOpt (maxA x r)
  | .delete, [m, k] => match ts[0]? with
    | some t => mdelA P t m k
    | none => .bad
  | .clear, [x] => match ts[0]? with
    | some t => clearA P t x
    | none => .bad
  | _, _ => .bad

def optO (ev : Operand → AV) : Option Operand → Option AV
  | none => none
  | some x => some (ev x)

def assertA (P : Program) (x : AV) (u : TypeId) : AM AV :=
  match P.underlying u with
  | some (.interface _) => .bad
  | some _ => match x with
    | .nilIface => match zeroA P u with
      | some z => .ret (.tuple [z, .bool false])
      | none => .bad
    | .iface t v => cond (Nat.beq t u) (.ret (.tuple [v, .bool true])) (match zeroA P u with
      | some z => .ret (.tuple [z, .bool false])
      | none => .bad)
    | _ => .bad
  | none => .bad

def aexec (P : Program) (C : FuncId → List AV → AM AV) (ev : Operand → AV) (op : Op) : AM AV :=
  match op with
  | .move x | .assign x => .ret (ev x)
  | .pick c a b => match ev c with
    | .bool t => .ret (cond t (ev a) (ev b))
    | _ => .bad
  | .alloc t => match zeroCellsA P t with
    | some cs => nw cs
    | none => .bad
  | .box _ x => match (ev x).cells? with
    | some cs => nw cs
    | none => .bad
  | .build t ps => ofOpt (buildA P t (evParts ev ps))
  | .buildSlice t n ps => buildSliceA P t n (evParts ev ps)
  | .load t a => match isAggT P t with
    | some true => cond (Nat.ble 1 (P.cellsOf t)) (ldN (P.cellsOf t) (ev a)) .bad
    | some false => ld (ev a)
    | none => .bad
  | .store t a x => match isAggT P t with
    | some true => cond (Nat.ble 1 (P.cellsOf t)) (unit2 (stN (P.cellsOf t) (ev a) (ev x))) .bad
    | some false => cond (Nat.beq (P.cellsOf t) 1) (unit2 (st (ev a) (ev x))) .bad
    | none => .bad
  | .nilCheck x => match ev x with
    | .ptr (some a) => .ret (.ptr (some a))
    | .func (.func f) a b => .ret (.func (.func f) a b)
    | _ => .bad
  | .binOp op t x y _ => ofOpt (binA P op t (isC x || isC y) (ev x) (ev y))
  | .unOp op _ x => ofOpt (unA op (ev x))
  | .convert s d x => convA P s d (ev x)
  | .makeInterface t x => match P.underlying t with
    | some (.interface _) => .bad
    | some _ => .ret (.iface t (ev x))
    | none => .bad
  | .makeFunc fn first captured => .ret (.func fn (first.toList.map ev) (captured.toList.map ev))
  | .makeMap _ none => nwMap
  | .makeSlice t l c => makeSliceA P t (ev l) (ev c)
  | .slice t x lo hi mx => sliceA P t (ev x) (optO ev lo) (optO ev hi) (optO ev mx)
  | .fieldAddr s x f => fieldAddrA P s (ev x) f
  | .field t x f => fieldA P t (ev x) f
  | .indexAddr t x i => indexAddrA P t (ev x) (ev i)
  | .index t x i => indexA P t (ev x) (ev i)
  | .lookup t x i ok => lookA P t (ev x) (ev i) ok
  | .mapUpdate t m k x => unit2 (mupdA P t (ev m) (ev k) (ev x))
  | .typeAssert x _ u true => assertA P (ev x) u
  | .extract t i => match ev t with
    | .tuple vs => match vs[i]? with
      | some v => .ret v
      | none => .bad
    | _ => .bad
  | .call c => match c.callee with
    | .value f => callA C (ev f) (c.args.toList.map ev)
    | .builtin b => builtinA P C b c.argTypes (c.args.toList.map ev)
    | .invoke _ _ => .bad
  | .panic x => match ev x with
    | .iface t v => fun h => .pan (.iface t v) h
    | _ => .bad
  | _ => .bad

/- ### kinds of operations -/
/- 0: touches no memory; 1: reads; 2: makes a new block; 3: all else -/
def clsConv (P : Program) (s d : TypeId) : Nat := match P.underlying s, P.underlying d with
  | some .string, some (.slice _) => 2
  | _, some (.slice _) => 3
  | some (.slice _), _ => 1
  | _, _ => 0
def cls (P : Program) : Op → Nat
  | .move _ | .assign _ | .pick .. | .build .. | .nilCheck _ | .binOp .. | .unOp .. | .makeInterface .. | .makeFunc .. | .fieldAddr .. | .field .. | .indexAddr .. | .index .. | .extract .. | .typeAssert .. => 0
  | .load .. | .lookup .. | .slice .. => 1
  | .convert s d _ => clsConv P s d
  | .alloc _ | .box .. | .buildSlice .. | .makeMap .. | .makeSlice .. => 2
  | .call c => match c.callee with
    | .builtin .len => 1
    | .builtin .min => 0
    | .builtin .max => 0
    | _ => 3
  | _ => 3

end Go.Am
/- The abstract machine: regions, code, functions. -/
namespace Go.Am

/- exits as numbers: 0: goes on; 1: returns; i + 2: leaves block i -/
inductive Hint where
  | dup
  | keep (ts : List Nat)
  /- a region that draws its order: for each operation which must come ahead of it (as bits); and its kind: 0: plain; 1: a read, and the heavy operations ahead of it in the text that it may
     come ahead of; 2: a heavy operation, and the reads ahead of it in the text that may come behind it; 3: the same, and it may panic -/
  | plan (ancs : List Nat) (ks : List (Nat × List Nat))

abbrev Ans : Type := Nat × List AV
abbrev LoopOp : Type := (List AV → AM Ans) → List AV → AM Ans
abbrev CallOp : Type := FuncId → List AV → AM AV

def putA (env : List AV) (d : Option Tmp) (v : AV) : List AV := match d with
  | some t => env.set t v
  | none => env

/- has the guard said so? -/
def wantA (ops : Array Oper) (env : List AV) (o : Oper) : Option Bool := match o.guard with
  | none => some true
  | some (j, want) => match ops[j]? with
    | some oj => match oj.dst with
      | some d => match env.getD d undefA with
        | .bool b => some (b == want)
        | .tuple [] => some false
        | _ => none
      | none => some false
    | none => some false

def opA (P : Program) (C : CallOp) (ops : Array Oper) (env : List AV) (o : Oper) : AM AV :=
  match o.guard with
  | none => aexec P C (evalO env) o.op
  | some _ => match wantA ops env o with
    | some b => cond b (aexec P C (evalO env) o.op) (.ret undefA)
    | none => .bad

def evalOps (P : Program) (C : CallOp) (ops : Array Oper) {β : Type} : List Nat → List AV → (List AV → AM β) → AM β
  | [], env, K => K env
  | i :: is, env, K => match ops[i]? with
    | none => .bad
    | some o => .bind (opA P C ops env o) fun v => evalOps P C ops is (putA env o.dst v) K

/- ### regions that draw their order -/
/- an operation that cannot fail -/
def tame : Op → Bool
  | .move _ | .assign _ | .makeFunc .. => true
  | _ => false

structure Rd where
  i : Nat
  o : Oper
  env : List AV
  v : AV
  nx : Nat

/- names no block from n on -/
mutual
def AV.under (n : Nat) : AV → Bool
  | .ptr (some l) => Nat.blt l.b n
  | .sl b _ _ _ => Nat.blt b n
  | .map (some b) => Nat.blt b n
  | .func _ a c => AV.unders n a && AV.unders n c
  | .iface _ x => AV.under n x
  | .agg cs => AV.unders n cs
  | .tuple cs => AV.unders n cs
  | _ => true
def AV.unders (n : Nat) : List AV → Bool
  | [] => true
  | a :: l => AV.under n a && AV.unders n l
end
def looksBelow (env : List AV) (n : Nat) : List Nat → Bool
  | [] => true
  | t :: l => AV.under n (env.getD t undefA) && looksBelow env n l

def same (P : Program) (ops : Array Oper) (r : Rd) (h : AHeap) : Bool :=
  match opA P (fun _ _ => .bad) ops r.env r.o h with
  | .ok v _ => v.beq r.v
  | _ => false
def heapAt : List (Nat × AHeap) → Nat → Option AHeap
  | [], _ => none
  | (q, h) :: l, p => cond (Nat.beq q p) (some h) (heapAt l p)
def readAt : List Rd → Nat → Option Rd
  | [], _ => none
  | r :: l, p => cond (Nat.beq r.i p) (some r) (readAt l p)
/- a read, held against the memory ahead of heavy operations -/
def chkBack (P : Program) (ops : Array Oper) (r : Rd) (hv : List (Nat × AHeap)) : List Nat → Bool
  | [] => true
  | q :: l => match heapAt hv q with
    | some h => looksBelow r.env h.next (r.o.looksAt ops) && (same P ops r h && chkBack P ops r hv l)
    | none => false
/- reads, held against the memory behind a heavy operation -/
def chkOn (P : Program) (ops : Array Oper) (rd : List Rd) (h : AHeap) : List Nat → Bool
  | [] => true
  | i :: l => match readAt rd i with
    | some r => AV.under r.nx r.v && (same P ops r h && chkOn P ops rd h l)
    | none => false

def bindP {α β : Type} (ok : Bool) (m : AM α) (f : α → AM β) : AM β := fun h => match m h with
  | .ok a h' => f a h'
  | .pan v h' => cond ok (.pan v h') .bad
  | .bad => .bad

def evalD (P : Program) (C : CallOp) (ops : Array Oper) {β : Type} : List (Nat × List Nat) → Nat → List AV → List (Nat × AHeap) → List Rd → (List AV → AM β) → AM β
  | [], i, env, _, _, K => cond (Nat.beq i ops.size) (K env) .bad
  | (k, l) :: ks, i, env, hv, rd, K => match ops[i]? with
    | none => .bad
    | some o => match k with
      | 0 => bindP false (opA P C ops env o) fun v => evalD P C ops ks (i + 1) (putA env o.dst v) hv rd K
      | 1 => fun h => bindP false (opA P C ops env o) (fun v h' => cond (chkBack P ops ⟨i, o, env, v, h.next⟩ hv l) (evalD P C ops ks (i + 1) (putA env o.dst v) hv (⟨i, o, env, v, h.next⟩ :: rd) K h') .bad) h
      | k => fun h => bindP (Nat.beq k 3) (opA P C ops env o) (fun v h' => cond (Nat.ble h.next h'.next && chkOn P ops rd h' l) (evalD P C ops ks (i + 1) (putA env o.dst v) ((i, h) :: hv) rd K h') .bad) h

/- ### code -/
def nh : Code → Nat
  | .region _ _ draw => cond draw 1 0
  | .seq a b => nh a + nh b
  | .cond _ a b => nh a + nh b + 1
  | .block _ b => nh b
  | .loop b => nh b + 1
  | _ => 0

def wrOps : List Oper → List Nat
  | [] => []
  | o :: r => match o.dst with
    | some d => d :: wrOps r
    | none => wrOps r
def wrt : Code → List Nat
  | .region _ ops _ => wrOps ops.toList
  | .seq a b => wrt a ++ wrt b
  | .cond _ a b => wrt a ++ wrt b
  | .block _ b => wrt b
  | .loop b => wrt b
  | _ => []
/- the ways out -/
def insN (n : Nat) (l : List Nat) : List Nat := cond (l.any (Nat.beq n)) l (l ++ [n])
def uniN (a b : List Nat) : List Nat := b.foldl (fun l n => insN n l) a
def outs : Code → List Nat
  | .skip => [0]
  | .region .. => [0]
  | .seq a b => uniN ((outs a).filter fun n => !Nat.beq n 0) (cond ((outs a).any (Nat.beq 0)) (outs b) [])
  | .cond _ a b => uniN (outs a) (outs b)
  | .block id b => uniN (cond ((outs b).any fun n => Nat.beq n 0 || Nat.beq n (id + 2)) [0] []) ((outs b).filter fun n => !(Nat.beq n 0 || Nat.beq n (id + 2)))
  | .loop b => (outs b).filter fun n => !Nat.beq n 0
  | .exit id => [id + 2]
  | .ret => [1]
  | _ => []

def clearL (env : List AV) : List Nat → List AV
  | [] => env
  | t :: ts => clearL (env.set t .top) ts
def setL (env : List AV) (vs : List AV) : List Nat → Nat → List AV
  | [], _ => env
  | t :: ts, k => setL (env.set t (vs.getD k .top)) vs ts (k + 1)
def pickL (env : List AV) (ts : List Nat) : List AV := ts.map fun t => env.getD t undefA
def restore (env : List AV) (w ts : List Nat) (vs : List AV) : List AV := setL (clearL env w) vs ts 0

def selC {β : Type} (e : Nat) (k : Nat → AM β) : List Nat → AM β
  | [] => .bad
  | c :: cs => cond (Nat.beq e c) (k c) (selC e k cs)

def bcond {β : Type} (v : AV) (x y : AM β) : AM β := match v with
  | .bool t => cond t x y
  | _ => .bad

def evalK (P : Program) (C : CallOp) (Lp : LoopOp) : Code → List Hint → (β : Type) → List AV → (Nat → List AV → AM β) → AM β
  | .skip, _, _, env, K => K 0 env
  | .region _ ops draw, hs, _, env, K => cond draw
      (match hs.headD .dup with
        | .plan _ ks => evalD P C ops ks 0 env [] [] (K 0)
        | _ => .bad)
      (evalOps P C ops (List.range ops.size) env (K 0))
  | .seq a b, hs, β, env, K => evalK P C Lp a hs β env fun e env' => cond (Nat.beq e 0) (evalK P C Lp b (hs.drop (nh a)) β env' K) (K e env')
  | .cond c a b, hs, β, env, K => match hs.headD .dup with
    | .dup => bcond (evalO env c) (evalK P C Lp a hs.tail β env K) (evalK P C Lp b (hs.tail.drop (nh a)) β env K)
    | .keep ts => .bind (bcond (evalO env c)
          (evalK P C Lp a hs.tail Ans env fun e env' => .ret (e, pickL env' ts))
          (evalK P C Lp b (hs.tail.drop (nh a)) Ans env fun e env' => .ret (e, pickL env' ts)))
        fun r => selC r.1 (fun e => K e (restore env (wrt a ++ wrt b) ts r.2)) (uniN (outs a) (outs b))
    | _ => .bad
  | .block id b, hs, β, env, K => evalK P C Lp b hs β env fun e env' => cond (Nat.beq e (id + 2)) (K 0 env') (K e env')
  | .loop b, hs, _, env, K => match hs.headD .dup with
    | .keep ts => .bind (Lp (fun vs => evalK P C Lp b hs.tail Ans (restore env (wrt b) ts vs) fun e env' => .ret (e, pickL env' ts)) (pickL env ts))
        fun r => selC r.1 (fun e => K e (restore env (wrt b) ts r.2)) ((outs b).filter fun n => !Nat.beq n 0)
    | _ => .bad
  | .exit id, _, _, env, K => K (id + 2) env
  | .ret, _, _, env, K => K 1 env
  | _, _, _, _, _ => .bad

def loopN : Nat → LoopOp
  | 0, _, _ => .bad
  | n + 1, f, vs => .bind (f vs) fun r => cond (Nat.beq r.1 0) (loopN n f r.2) (.ret r)

def ldT (P : Program) (t : TypeId) (p : AV) : AM AV := match isAggT P t with
  | some true => cond (Nat.ble 1 (P.cellsOf t)) (ldN (P.cellsOf t) p) .bad
  | some false => ld p
  | none => .bad
def results1 (P : Program) (env : List AV) : ResultVar → AM AV
  | .tmp t => .ret (env.getD t undefA)
  | .cell a t => ldT P t (env.getD a undefA)
def resultsL (P : Program) (env : List AV) : List ResultVar → AM (List AV)
  | [] => .ret []
  | r :: rs => .bind (results1 P env r) fun v => .bind (resultsL P env rs) fun vs => .ret (v :: vs)
def resultsA (P : Program) (rs : List ResultVar) (env : List AV) : AM AV := match rs with
  | [r] => results1 P env r
  | rs => .bind (resultsL P env rs) fun vs => .ret (.tuple vs)

def evalFn (P : Program) (C : CallOp) (Lp : LoopOp) (fn : Func) (hs : List Hint) (args : List AV) : AM AV := match fn.body with
  | none => .bad
  | some c => evalK P C Lp c hs AV (args ++ List.replicate (fn.ntmps - args.length) undefA) fun e env => cond (Nat.ble e 1) (resultsA P fn.results.toList env) .bad

abbrev Special : Type := CallOp → LoopOp → FuncId → Option (List AV → AM AV)

def callN (P : Program) (X : Special) (H : FuncId → List Hint) : Nat → CallOp
  | 0, _, _ => .bad
  | n + 1, f, args => match X (callN P X H n) (loopN n) f with
    | some g => g args
    | none => match P.funcs[f]? with
      | some fn => evalFn P (callN P X H n) (loopN n) fn (H f) args
      | none => .bad

/- ### functions that defer one closure ahead of all else -/
def recOp (C : CallOp) (rv : AV) : CallOp := fun f a => cond (Nat.beq f recId) (.ret rv) (C f a)
def evalDeferBody (P : Program) (C : CallOp) (Lp : LoopOp) (H : FuncId → List Hint) (fn : Func) (rest : Code) (hs : List Hint) (env : List AV) (g : FuncId) (cap : List AV) : AM AV :=
  match P.funcs[g]? with
  | none => .bad
  | some fg => fun h => match evalK P C Lp rest hs Unit env (fun e _ => cond (Nat.ble e 1) (.ret ()) .bad) h with
    | .ok _ h' => match evalFn P (recOp C .nilIface) Lp fg (H g) cap h' with
      | .ok _ h'' => resultsA P fn.results.toList env h''
      | _ => .bad
    | .pan v h' => match evalFn P (recOp C v) Lp fg (H g) cap h' with
      | .ok _ h'' => resultsA P fn.results.toList env h''
      | _ => .bad
    | .bad => .bad
/- the results stand in variables of their own, whose addresses the rest doesn't touch -/
def cellsFree (w : List Nat) : List ResultVar → Bool
  | [] => true
  | .cell a _ :: r => !(w.any (Nat.beq a)) && cellsFree w r
  | .tmp _ :: _ => false
def evalDefer (P : Program) (C : CallOp) (Lp : LoopOp) (H : FuncId → List Hint) (fn : Func) (hs : List Hint) (args : List AV) : AM AV :=
  match fn.body with
  | some (.seq (.region _ ops1 false) (.seq (.region _ ops2 false) rest)) =>
    evalOps P C ops1 (List.range ops1.size) (args ++ List.replicate (fn.ntmps - args.length) undefA) fun env1 =>
      match ops2.toList with
      | [o1, o2] => match o1.guard, o2.guard, o2.op with
        | none, none, .defer c => match c.callee, c.args.toList with
          | .value (.tmp t), [] => .bind (opA P C ops2 env1 o1) fun v => match (putA env1 o1.dst v).getD t undefA with
            | .func (.func g) [] cap => cond (cellsFree (wrt rest) fn.results.toList) (evalDeferBody P C Lp H fn rest hs (putA (putA env1 o1.dst v) o2.dst undefA) g cap) .bad
            | _ => .bad
          | _, _ => .bad
        | _, _, _ => .bad
      | _ => .bad
  | _ => .bad

end Go.Am
/- The abstract machine against the model: what an abstract value and an abstract heap stand for. -/
namespace Go.Am

abbrev Inj : Type := Nat → Option (Nat × Nat × Nat)

mutual
def VRel (μ : Inj) : AV → Value → Prop
  | .top, _ => True
  | .bool a, v => v = .bool a
  | .int k n, v => v = .int k n
  | .str s, v => ∃ t : ByteArray, v = .string t ∧ t.data.toList = s
  | .ptr none, v => v = .pointer none
  | .ptr (some l), v => ∃ C d S, μ l.b = some (C, d, S) ∧ v = .pointer (some ⟨C, d + l.o, none⟩)
  | .snil, v => v = .slice none 0 0
  | .szero, v => ∃ a, v = .slice (some a) 0 0
  | .sl b o n es, v => ∃ C d S a cap, μ b = some (C, d, S) ∧ v = .slice (some a) n cap ∧ n ≤ cap ∧ 1 ≤ es ∧
      ((a = ⟨C, d + o, none⟩ ∧ d + o + cap * es ≤ S) ∨ (n = 0 ∧ cap = 0 ∧ ∃ k, a = ⟨C, k, none⟩))
  | .map none, v => v = .map none
  | .map (some r), v => ∃ C d S, μ r = some (C, d, S) ∧ v = .map (some C)
  | .func fn a c, v => ∃ a' c' : Array Value, v = .func fn a' c' ∧ VRels μ a a'.toList ∧ VRels μ c c'.toList
  | .nilFunc, v => v = .nilFunc
  | .iface t x, v => ∃ u, v = .iface t u ∧ VRel μ x u
  | .nilIface, v => v = .nilIface
  | .agg cs, v => ∃ a : Array Value, v = .agg a ∧ VRels μ cs a.toList
  | .tuple cs, v => ∃ a : Array Value, v = .tuple a ∧ VRels μ cs a.toList
def VRels (μ : Inj) : List AV → List Value → Prop
  | [], l => l = []
  | a :: as, l => ∃ v vs, l = v :: vs ∧ VRel μ a v ∧ VRels μ as vs
end

def Inj.le (μ μ' : Inj) : Prop := ∀ b x, μ b = some x → μ' b = some x
theorem Inj.le_refl (μ : Inj) : μ.le μ := fun _ _ h => h
theorem Inj.le_trans {a b c : Inj} (h : a.le b) (h' : b.le c) : a.le c := fun x y e => h' x y (h x y e)

mutual
theorem VRel.mono {μ μ' : Inj} (hm : μ.le μ') : ∀ (a : AV) (v : Value), VRel μ a v → VRel μ' a v := fun a v h => by
  cases a with
  | top => trivial
  | bool => exact h
  | int => exact h
  | str => exact h
  | ptr a => cases a with
    | none => exact h
    | some l => obtain ⟨C, d, S, h1, h2⟩ := h; exact ⟨C, d, S, hm _ _ h1, h2⟩
  | snil => exact h
  | szero => exact h
  | sl b o n es => obtain ⟨C, d, S, a, cap, h1, h2⟩ := h; exact ⟨C, d, S, a, cap, hm _ _ h1, h2⟩
  | map r => cases r with
    | none => exact h
    | some r => obtain ⟨C, d, S, h1, h2⟩ := h; exact ⟨C, d, S, hm _ _ h1, h2⟩
  | func fn a c => obtain ⟨a', c', h1, h2, h3⟩ := h; exact ⟨a', c', h1, VRels.mono hm _ _ h2, VRels.mono hm _ _ h3⟩
  | nilFunc => exact h
  | iface t x => obtain ⟨u, h1, h2⟩ := h; exact ⟨u, h1, VRel.mono hm _ _ h2⟩
  | nilIface => exact h
  | agg cs => obtain ⟨a, h1, h2⟩ := h; exact ⟨a, h1, VRels.mono hm _ _ h2⟩
  | tuple cs => obtain ⟨a, h1, h2⟩ := h; exact ⟨a, h1, VRels.mono hm _ _ h2⟩
theorem VRels.mono {μ μ' : Inj} (hm : μ.le μ') : ∀ (a : List AV) (v : List Value), VRels μ a v → VRels μ' a v := fun a v h => by
  cases a with
  | nil => exact h
  | cons a as => obtain ⟨v, vs, h1, h2, h3⟩ := h; exact ⟨v, vs, h1, VRel.mono hm _ _ h2, VRels.mono hm _ _ h3⟩
end

/- ### lists of values -/
theorem VRels.length {μ : Inj} : ∀ {as : List AV} {vs : List Value}, VRels μ as vs → as.length = vs.length
  | [], vs, h => by rw [VRels] at h; subst h; rfl
  | a :: as, vs, h => by obtain ⟨v, vs', rfl, h1, h2⟩ := h; simp [VRels.length h2]
theorem VRels.get {μ : Inj} : ∀ {as : List AV} {vs : List Value}, VRels μ as vs → ∀ {i : Nat} {a : AV}, as[i]? = some a → ∃ v, vs[i]? = some v ∧ VRel μ a v
  | [], vs, h, i, a, e => by simp at e
  | x :: as, vs, h, i, a, e => by
    obtain ⟨v, vs', rfl, h1, h2⟩ := h
    cases i with
    | zero => simp at e; subst e; exact ⟨v, by simp, h1⟩
    | succ i => simp at e; obtain ⟨u, hu, hr⟩ := h2.get e; exact ⟨u, by simpa using hu, hr⟩
theorem VRels.of_get {μ : Inj} : ∀ {as : List AV} {vs : List Value}, as.length = vs.length →
    (∀ (i : Nat) (a : AV), as[i]? = some a → ∃ v, vs[i]? = some v ∧ VRel μ a v) → VRels μ as vs
  | [], [], _, _ => rfl
  | [], _ :: _, h, _ => by simp at h
  | _ :: _, [], h, _ => by simp at h
  | a :: as, v :: vs, h, hg => by
    refine ⟨v, vs, rfl, ?_, VRels.of_get (by simpa using h) fun i x e => by simpa using hg (i + 1) x (by simpa using e)⟩
    obtain ⟨u, hu, hr⟩ := hg 0 a (by simp)
    simp at hu; subst hu; exact hr
theorem VRels.append {μ : Inj} : ∀ {as bs : List AV} {vs us : List Value}, VRels μ as vs → VRels μ bs us → VRels μ (as ++ bs) (vs ++ us)
  | [], bs, vs, us, h, h' => by rw [VRels] at h; subst h; simpa using h'
  | a :: as, bs, vs, us, h, h' => by obtain ⟨v, vs', rfl, h1, h2⟩ := h; exact ⟨v, vs' ++ us, rfl, h1, h2.append h'⟩
theorem VRels.take {μ : Inj} : ∀ {as : List AV} {vs : List Value} (n : Nat), VRels μ as vs → VRels μ (as.take n) (vs.take n)
  | _, _, 0, _ => by simp [VRels]
  | [], vs, n + 1, h => by rw [VRels] at h; subst h; simp [VRels]
  | a :: as, vs, n + 1, h => by obtain ⟨v, vs', rfl, h1, h2⟩ := h; exact ⟨v, vs'.take n, by simp, h1, h2.take n⟩
theorem VRels.drop {μ : Inj} : ∀ {as : List AV} {vs : List Value} (n : Nat), VRels μ as vs → VRels μ (as.drop n) (vs.drop n)
  | as, vs, 0, h => by simpa using h
  | [], vs, n + 1, h => by rw [VRels] at h; subst h; simp [VRels]
  | a :: as, vs, n + 1, h => by obtain ⟨v, vs', rfl, h1, h2⟩ := h; simpa using h2.drop n
theorem VRels.nil_iff {μ : Inj} {vs : List Value} : VRels μ [] vs ↔ vs = [] := Iff.rfl

/- ### cells -/
def CellsRel (μ : Inj) (cs : List AV) (c : Array Value) (d : Nat) : Prop := ∀ (i : Nat) (v : AV), cs[i]? = some v → ∃ u, c[d + i]? = some u ∧ VRel μ v u
def EntsRel (μ : Inj) : List (AV × AV) → List MapEntry → Prop
  | [], l => l = []
  | (k, v) :: es, l => ∃ e l', l = e :: l' ∧ VRel μ k e.key ∧ VRel μ v e.val ∧ EntsRel μ es l'
def Warm (fz : Nat × Nat) (S : Nat) : Prop := fz.1 = fz.2 ∨ S ≤ fz.1

def ObjRel (μ : Inj) (h : AHeap) (w : World) (C d S : Nat) : AObj → Prop
  | .solo cs => d = 0 ∧ ∃ c e fz, w.heap[C]? = some (.cells c e fz) ∧ c.size = S ∧ cs.length = S ∧ CellsRel μ cs c 0 ∧ Warm fz S
  | .ro cs => ∃ c e fz, w.heap[C]? = some (.cells c e fz) ∧ c.size = S ∧ d + cs.length ≤ S ∧ CellsRel μ cs c d
  | .row cs f v => ∃ top lo, h.fams.get f = some (top, lo) ∧ (v ≤ top ∧ lo ≤ top) ∧ ∃ c e fz, w.heap[C]? = some (.cells c e fz) ∧ c.size = S ∧
      (lo ≤ v → d + cs.length ≤ S ∧ CellsRel μ cs c d ∧ Warm fz S)
  | .map es => d = 0 ∧ ∃ ents clock, w.heap[C]? = some (.map ents clock) ∧ EntsRel μ es ents.toList

def SepOK : AObj → AObj → Prop
  | .row _ f _, .row _ g _ => f = g
  | .ro _, .ro _ => True
  | _, _ => False

structure Rel (μ : Inj) (h : AHeap) (w : World) : Prop where
  obj : ∀ b C d S, μ b = some (C, d, S) → b < h.next ∧ C < w.heap.size ∧ ∃ o, h.objs.get b = some o ∧ ObjRel μ h w C d S o
  sep : ∀ b1 b2 C d1 S1 d2 S2 o1 o2, μ b1 = some (C, d1, S1) → μ b2 = some (C, d2, S2) → h.objs.get b1 = some o1 → h.objs.get b2 = some o2 → b1 = b2 ∨ SepOK o1 o2
  ver : ∀ b1 b2 x1 x2 cs1 cs2 f v, μ b1 = some x1 → μ b2 = some x2 → h.objs.get b1 = some (.row cs1 f v) → h.objs.get b2 = some (.row cs2 f v) → b1 = b2
  ord : ∀ b1 b2 C d1 S1 d2 S2 cs1 cs2 f v1 v2 top lo, μ b1 = some (C, d1, S1) → μ b2 = some (C, d2, S2) → h.objs.get b1 = some (.row cs1 f v1) → h.objs.get b2 = some (.row cs2 f v2) →
    h.fams.get f = some (top, lo) → lo ≤ v1 → v1 ≤ v2 → d1 + cs1.length ≤ d2 + cs2.length
  fid : ∀ b x cs f v, μ b = some x → h.objs.get b = some (.row cs f v) → f ≤ b ∧ ∃ y, μ f = some y

def isRo : Option AObj → Prop
  | some (.ro _) => True
  | _ => False

structure Ext (μ : Inj) (h : AHeap) (w : World) (μ' : Inj) (h' : AHeap) (w' : World) : Prop where
  sub : μ.le μ'
  newA : ∀ b x, μ' b = some x → μ b = some x ∨ h.next ≤ b
  newC : ∀ b C d S, μ' b = some (C, d, S) → μ b = none → w.heap.size ≤ C ∨ ∃ b0 d0 S0, μ b0 = some (C, d0, S0)
  next : h.next ≤ h'.next
  size : w.heap.size ≤ w'.heap.size
  frC : ∀ C, C < w.heap.size → (∀ b d S, μ b = some (C, d, S) → isRo (h.objs.get b)) → w'.heap[C]? = w.heap[C]?
  frA : ∀ b, b < h.next → μ b = none → h'.objs.get b = h.objs.get b ∧ h'.fams.get b = h.fams.get b
  ro : ∀ b x, μ b = some x → isRo (h.objs.get b) → h'.objs.get b = h.objs.get b
  os : w'.os = w.os
  output : w'.output = w.output

theorem Ext.refl {μ : Inj} {h : AHeap} {w : World} : Ext μ h w μ h w where
  sub := Inj.le_refl _
  newA := fun _ _ h => .inl h
  newC := fun _ _ _ _ h h' => by rw [h] at h'; cases h'
  next := Nat.le_refl _
  size := Nat.le_refl _
  frC := fun _ _ _ => rfl
  frA := fun _ _ _ => ⟨rfl, rfl⟩
  ro := fun _ _ _ _ => rfl
  os := rfl
  output := rfl

theorem Ext.trans {μ μ' μ'' : Inj} {h h' h'' : AHeap} {w w' w'' : World} (hr' : Rel μ' h' w') (e : Ext μ h w μ' h' w') (e' : Ext μ' h' w' μ'' h'' w'') : Ext μ h w μ'' h'' w'' where
  sub := Inj.le_trans e.sub e'.sub
  newA := fun b x hb => by
    rcases e'.newA b x hb with h1 | h1
    · exact e.newA b x h1
    · exact .inr (Nat.le_trans e.next h1)
  newC := fun b C d S hb hn => by
    cases hm : μ' b with
    | some y =>
      have := e'.sub b y hm
      rw [this] at hb; cases hb
      exact e.newC b C d S hm hn
    | none =>
      rcases e'.newC b C d S hb hm with h1 | ⟨b0, d0, S0, h1⟩
      · exact .inl (Nat.le_trans e.size h1)
      · cases hm0 : μ b0 with
        | some y => have := e.sub b0 y hm0; rw [this] at h1; cases h1; exact .inr ⟨b0, d0, S0, hm0⟩
        | none => exact e.newC b0 C d0 S0 h1 hm0
  next := Nat.le_trans e.next e'.next
  size := Nat.le_trans e.size e'.size
  frC := fun C hC hro => by
    rw [e'.frC C (Nat.lt_of_lt_of_le hC e.size) ?_, e.frC C hC hro]
    intro b d S hb
    cases hm : μ b with
    | some y =>
      have h1 := e.sub b y hm
      rw [h1] at hb; cases hb
      have := hro b d S hm
      rw [e.ro b _ hm this]; exact this
    | none =>
      rcases e.newC b C d S hb hm with h1 | ⟨b0, d0, S0, h1⟩
      · omega
      · have hro0 := hro b0 d0 S0 h1
        obtain ⟨_, _, o0, ho0, _⟩ := hr'.obj b0 C d0 S0 (e.sub _ _ h1)
        obtain ⟨_, _, o, ho, _⟩ := hr'.obj b C d S hb
        have hk : isRo (h'.objs.get b0) := by rw [e.ro b0 _ h1 hro0]; exact hro0
        rcases hr'.sep b0 b C d0 S0 d S o0 o (e.sub _ _ h1) hb ho0 ho with rfl | hs
        · rw [h1] at hm; cases hm
        · rw [ho0] at hk; rw [ho]
          cases o0 <;> simp [isRo] at hk
          cases o <;> simp [SepOK] at hs
          trivial
  frA := fun b hb hn => by
    obtain ⟨h1, h2⟩ := e.frA b hb hn
    have hn' : μ' b = none := by
      cases hm : μ' b with
      | none => rfl
      | some y => rcases e.newA b y hm with h3 | h3
                  · rw [hn] at h3; cases h3
                  · omega
    obtain ⟨h3, h4⟩ := e'.frA b (Nat.lt_of_lt_of_le hb e.next) hn'
    exact ⟨h3.trans h1, h4.trans h2⟩
  ro := fun b x hb hro => by
    have h1 := e.ro b x hb hro
    rw [e'.ro b x (e.sub _ _ hb) (by rw [h1]; exact hro), h1]
  os := e'.os.trans e.os
  output := e'.output.trans e.output

end Go.Am
/- The abstract machine against the model: loads, stores, new blocks. -/
namespace Go.Am

variable {P : Program}

theorem addr_add (C k n : Nat) : (⟨C, k, none⟩ : Addr).add n = ⟨C, k + n, none⟩ := by
  unfold Addr.add; split <;> simp_all

theorem cell_of {w : World} {C k : Nat} {c : Array Value} {e : TypeId} {fz : Nat × Nat} (h : w.heap[C]? = some (.cells c e fz)) : w.cell? ⟨C, k, none⟩ = c[k]? := by
  simp [World.cell?, h]
theorem frozen_of {w : World} {C k : Nat} {c : Array Value} {e : TypeId} {fz : Nat × Nat} (h : w.heap[C]? = some (.cells c e fz)) (hf : Warm fz c.size) (hk : k < c.size) : w.frozen? ⟨C, k, none⟩ = false := by
  simp only [World.frozen?, h]
  rcases hf with hf | hf
  · simp; omega
  · simp; omega

/-- Cells that are read: what the model loads is what the abstract cells stand for. -/
theorem loadCells_rel {μ : Inj} {w : World} {C d k n : Nat} {c : Array Value} {e : TypeId} {fz : Nat × Nat} {cs : List AV} (h : w.heap[C]? = some (.cells c e fz)) (hc : CellsRel μ cs c d)
    (hn : ((cs.drop k).take n).length = n) : ∃ us : List Value, (loadCells ⟨C, d + k, none⟩ n).run P w = .ok us.toArray w ∧ VRels μ ((cs.drop k).take n) us := by
  let us := (List.range n).map fun j => (c[d + k + j]?).getD undef
  have hlen : us.length = n := by simp [us]
  have hcell : ∀ j, j < n → ∃ a u, ((cs.drop k).take n)[j]? = some a ∧ c[d + k + j]? = some u ∧ VRel μ a u := fun j hj => by
    have hl : j < ((cs.drop k).take n).length := by omega
    obtain ⟨u, hu, hr⟩ := hc (k + j) _ (by
      have := List.getElem?_eq_getElem hl
      rw [List.getElem?_take_of_lt hj, List.getElem?_drop] at this; exact this)
    exact ⟨_, u, List.getElem?_eq_getElem hl, by rwa [Nat.add_assoc], hr⟩
  have hrel : VRels μ ((cs.drop k).take n) us := VRels.of_get (by rw [hlen, hn]) fun i a ha => by
    have hi : i < n := by have := (List.getElem?_eq_some_iff.1 ha).1; omega
    obtain ⟨a', u, h1, h2, h3⟩ := hcell i hi
    rw [h1] at ha; cases ha
    exact ⟨u, by simp [us, hi, h2], h3⟩
  refine ⟨us, ?_, hrel⟩
  have := run_loadCells_list (P := P) w ⟨C, d + k, none⟩ us fun j v hv => by
    have hj : j < n := by have := (List.getElem?_eq_some_iff.1 hv).1; omega
    obtain ⟨a', u, h1, h2, h3⟩ := hcell j hj
    rw [addr_add, cell_of h]
    simp [us, hj, h2] at hv
    rw [← hv, h2]
  rwa [hlen] at this

/- ### what a store makes of the heap -/
def overArr (c : Array Value) : Nat → List Value → Array Value
  | _, [] => c
  | o, v :: r => overArr (c.setIfInBounds o v) (o + 1) r
theorem size_overArr : ∀ (r : List Value) (c : Array Value) (o : Nat), (overArr c o r).size = c.size
  | [], _, _ => rfl
  | v :: r, c, o => by rw [overArr, size_overArr r]; simp
theorem get_overArr_out : ∀ (r : List Value) (c : Array Value) (o j : Nat), (j < o ∨ o + r.length ≤ j) → (overArr c o r)[j]? = c[j]?
  | [], _, _, _, _ => rfl
  | v :: r, c, o, j, h => by
    rw [overArr, get_overArr_out r _ _ _ (by simp at h; omega), Array.getElem?_setIfInBounds_ne (by simp at h; omega)]
theorem get_overArr_in : ∀ (r : List Value) (c : Array Value) (o j : Nat), o + r.length ≤ c.size → j < r.length → (overArr c o r)[o + j]? = r[j]?
  | v :: r, c, o, 0, h, _ => by
    rw [overArr, get_overArr_out r _ _ _ (.inl (by omega))]
    simp at h
    simp [show o < c.size by omega]
  | v :: r, c, o, j + 1, h, hj => by
    have := get_overArr_in r (c.setIfInBounds o v) (o + 1) j (by simp at h ⊢; omega) (by simpa using hj)
    rw [overArr, show o + (j + 1) = o + 1 + j by omega, this]; simp

theorem heap_setCells {C : Nat} {e : TypeId} {fz : Nat × Nat} : ∀ (vs : List Value) (o : Nat) (w : World) (c : Array Value), w.heap[C]? = some (.cells c e fz) → (w.setCells C o vs).heap[C]? = some (.cells (overArr c o vs) e fz)
  | [], _, _, _, h => h
  | v :: r, o, w, c, h => by
    rw [World.setCells, overArr]
    refine heap_setCells r (o + 1) _ _ ?_
    simp [World.setCell, Array.getElem?_modify, h]
theorem heap_setCells_ne {C b : Nat} (hne : C ≠ b) : ∀ (vs : List Value) (o : Nat) (w : World), (w.setCells b o vs).heap[C]? = w.heap[C]?
  | [], _, _ => rfl
  | v :: r, o, w => by
    rw [World.setCells, heap_setCells_ne hne r]
    simp [World.setCell, Array.getElem?_modify, Ne.symm hne]
theorem size_setCells (b : Nat) : ∀ (vs : List Value) (o : Nat) (w : World), (w.setCells b o vs).heap.size = w.heap.size
  | [], _, _ => rfl
  | v :: r, o, w => by rw [World.setCells, size_setCells b r]; simp
theorem os_setCells (b : Nat) : ∀ (vs : List Value) (o : Nat) (w : World), (w.setCells b o vs).os = w.os ∧ (w.setCells b o vs).output = w.output
  | [], _, _ => ⟨rfl, rfl⟩
  | v :: r, o, w => by rw [World.setCells]; exact os_setCells b r (o + 1) _

theorem storeCells_run {w : World} {C k : Nat} {c : Array Value} {e : TypeId} {fz : Nat × Nat} (h : w.heap[C]? = some (.cells c e fz)) (hf : Warm fz c.size) (us : List Value) (h1 : ∀ u ∈ us, u.oneCell' = true)
    (hk : k + us.length ≤ c.size) : (storeCells ⟨C, k, none⟩ us).run P w = .ok () (w.setCells C k us) := by
  have := run_storeCells_cells (P := P) C k us 0 w (fun j hj => by
      rw [cell_of h]; simp; omega)
    (fun j hj => by rw [frozen_of h hf (by omega)]) h1
  simpa using this

/- ### a cell's value -/
theorem AV.isCell_oneCell {μ : Inj} {a : AV} {v : Value} (hc : a.isCell = true) (h : VRel μ a v) : v.oneCell' = true := by
  cases a <;> simp [AV.isCell] at hc
  case bool => rw [h]; rfl
  case int => rw [h]; rfl
  case str => obtain ⟨t, rfl, _⟩ := h; rfl
  case ptr a => cases a with
    | none => rw [h]; rfl
    | some l => obtain ⟨C, d, S, _, rfl⟩ := h; rfl
  case snil => rw [h]; rfl
  case szero => obtain ⟨a, rfl⟩ := h; rfl
  case sl => obtain ⟨C, d, S, a, cap, _, rfl, _⟩ := h; rfl
  case map r => cases r with
    | none => rw [h]; rfl
    | some r => obtain ⟨C, d, S, _, rfl⟩ := h; rfl
  case func => obtain ⟨a, b, rfl, _⟩ := h; rfl
  case nilFunc => rw [h]; rfl
  case iface => obtain ⟨u, rfl, _⟩ := h; rfl
  case nilIface => rw [h]; rfl
theorem all_oneCell {μ : Inj} : ∀ {cs : List AV} {us : List Value}, cs.all AV.isCell = true → VRels μ cs us → ∀ u ∈ us, u.oneCell' = true
  | [], us, _, h => by rw [VRels] at h; subst h; simp
  | a :: cs, us, hc, h => by
    obtain ⟨v, vs, rfl, h1, h2⟩ := h
    simp at hc
    intro u hu
    rcases List.mem_cons.1 hu with rfl | hu
    · exact AV.isCell_oneCell hc.1 h1
    · exact all_oneCell (by simpa using hc.2) h2 u hu
/-- the cells of a value -/
theorem cells_of {μ : Inj} {a : AV} {v : Value} {cs : List AV} (hc : a.cells? = some cs) (h : VRel μ a v) : VRels μ cs v.cells.toList := by
  cases a <;> simp only [AV.cells?, Option.some.injEq, reduceCtorEq] at hc <;> subst hc
  case agg => obtain ⟨a, rfl, h⟩ := h; exact h
  case ptr a => cases a with
    | none => rw [VRel] at h; subst h; exact ⟨_, [], rfl, by simp [VRel], rfl⟩
    | some l => obtain ⟨C, d, S, h1, rfl⟩ := h; exact ⟨_, [], rfl, ⟨C, d, S, h1, rfl⟩, rfl⟩
  case map a => cases a with
    | none => rw [VRel] at h; subst h; exact ⟨_, [], rfl, by simp [VRel], rfl⟩
    | some l => obtain ⟨C, d, S, h1, rfl⟩ := h; exact ⟨_, [], rfl, ⟨C, d, S, h1, rfl⟩, rfl⟩
  case str => obtain ⟨t, rfl, h⟩ := h; exact ⟨_, [], rfl, ⟨t, rfl, h⟩, rfl⟩
  case szero => obtain ⟨t, rfl⟩ := h; exact ⟨_, [], rfl, ⟨t, rfl⟩, rfl⟩
  case sl => obtain ⟨C, d, S, a, cap, h1, rfl, h2⟩ := h; exact ⟨_, [], rfl, ⟨C, d, S, a, cap, h1, rfl, h2⟩, rfl⟩
  case func => obtain ⟨a, b, rfl, h⟩ := h; exact ⟨_, [], rfl, ⟨a, b, rfl, h⟩, rfl⟩
  case iface => obtain ⟨u, rfl, h⟩ := h; exact ⟨_, [], rfl, ⟨u, rfl, h⟩, rfl⟩
  all_goals (rw [VRel] at h; subst h; exact ⟨_, [], rfl, by simp [VRel], rfl⟩)

/- ### the relation at a block -/
theorem Rel.readable {μ : Inj} {h : AHeap} {w : World} (hr : Rel μ h w) {b C d S : Nat} {cs : List AV} (hb : μ b = some (C, d, S)) (hc : h.cells b = some cs) :
    ∃ c e fz, w.heap[C]? = some (.cells c e fz) ∧ c.size = S ∧ d + cs.length ≤ S ∧ CellsRel μ cs c d := by
  obtain ⟨_, _, o, ho, hor⟩ := hr.obj b C d S hb
  simp only [AHeap.cells, ho] at hc
  cases o with
  | solo cs' =>
    simp at hc; subst hc
    obtain ⟨rfl, c, e, fz, h1, h2, h3, h4, h5⟩ := hor
    exact ⟨c, e, fz, h1, h2, by omega, h4⟩
  | ro cs' =>
    simp at hc; subst hc
    obtain ⟨c, e, fz, h1, h2, h3, h4⟩ := hor
    exact ⟨c, e, fz, h1, h2, h3, h4⟩
  | row cs' f v =>
    obtain ⟨top, lo, hf, hv, c, e, fz, h1, h2, h3⟩ := hor
    simp only [hf] at hc
    cases hlo : Nat.ble lo v with
    | false => simp [hlo] at hc
    | true =>
      simp [hlo] at hc; subst hc
      obtain ⟨h4, h5, h6⟩ := h3 (Nat.le_of_ble_eq_true hlo)
      exact ⟨c, e, fz, h1, h2, h4, h5⟩
  | map es => simp at hc

theorem rdN_cells {h : AHeap} {b o n : Nat} {l : List AV} (hl : rdN h b o n = some l) : ∃ cs, h.cells b = some cs ∧ l = (cs.drop o).take n ∧ l.length = n := by
  simp only [rdN] at hl
  cases hc : h.cells b with
  | none => simp [hc] at hl
  | some cs =>
    simp only [hc] at hl
    cases hb : Nat.beq ((cs.drop o).take n).length n with
    | false => rw [hb] at hl; simp at hl
    | true =>
      rw [hb] at hl; simp at hl
      exact ⟨cs, rfl, hl.symm, by rw [← hl]; exact Nat.eq_of_beq_eq_true hb⟩

/-- Cells that the abstract heap reads are cells that the model reads. -/
theorem Rel.read {μ : Inj} {h : AHeap} {w : World} (hr : Rel μ h w) {b C d S o n : Nat} {l : List AV} (hb : μ b = some (C, d, S)) (hl : rdN h b o n = some l) :
    ∃ us : List Value, (loadCells ⟨C, d + o, none⟩ n).run P w = .ok us.toArray w ∧ VRels μ l us := by
  obtain ⟨cs, hc, rfl, hn⟩ := rdN_cells hl
  obtain ⟨c, e, fz, h1, h2, h3, h4⟩ := hr.readable hb hc
  exact loadCells_rel h1 h4 hn

end Go.Am
/- The abstract machine against the model: a write. -/
namespace Go.Am

variable {P : Program}

theorem length_over (cs : List AV) (o : Nat) (xs : List AV) (h : o + xs.length ≤ cs.length) : (over cs o xs).length = cs.length := by
  simp only [over, List.length_append, List.length_take, List.length_drop]; omega
theorem get_over (cs : List AV) (o : Nat) (xs : List AV) (h : o + xs.length ≤ cs.length) (i : Nat) :
    (over cs o xs)[i]? = if o ≤ i ∧ i < o + xs.length then xs[i - o]? else cs[i]? := by
  simp only [over]
  rcases Nat.lt_or_ge i o with h1 | h1
  · rw [List.getElem?_append_left (by simp; omega), List.getElem?_take_of_lt h1, if_neg (by omega)]
  · rw [List.getElem?_append_right (by simp; omega)]
    have hl : (cs.take o).length = o := by simp; omega
    rw [hl]
    rcases Nat.lt_or_ge i (o + xs.length) with h2 | h2
    · rw [List.getElem?_append_left (by omega), if_pos ⟨h1, h2⟩]
    · rw [List.getElem?_append_right (by omega), List.getElem?_drop, if_neg (by omega)]
      congr 1; omega
theorem CellsRel.over {μ : Inj} {cs : List AV} {c : Array Value} {d o : Nat} {xs : List AV} {us : List Value} (hc : CellsRel μ cs c d) (h : o + xs.length ≤ cs.length) (hd : d + cs.length ≤ c.size)
    (hx : VRels μ xs us) : CellsRel μ (over cs o xs) (overArr c (d + o) us) d := by
  have hl := hx.length
  intro i v hv
  rw [get_over cs o xs h] at hv
  split at hv
  · rename_i hi
    obtain ⟨u, hu, hr⟩ := hx.get hv
    refine ⟨u, ?_, hr⟩
    have := get_overArr_in us c (d + o) (i - o) (by omega) (by omega)
    rw [show d + i = d + o + (i - o) by omega, this, hu]
  · rename_i hi
    obtain ⟨u, hu, hr⟩ := hc i v hv
    exact ⟨u, by rw [get_overArr_out _ _ _ _ (by omega)]; exact hu, hr⟩

theorem ObjRel.congr {μ : Inj} {h h' : AHeap} {w w' : World} {C d S : Nat} {o : AObj} (hw : w'.heap[C]? = w.heap[C]?) (hf : ∀ f, (match o with | .row _ g _ => f = g | _ => False) → h'.fams.get f = h.fams.get f)
    (hr : ObjRel μ h w C d S o) : ObjRel μ h' w' C d S o := by
  cases o with
  | solo cs => simpa only [ObjRel, hw] using hr
  | ro cs => simpa only [ObjRel, hw] using hr
  | row cs f v => simpa only [ObjRel, hw, hf f rfl] using hr
  | map es => simpa only [ObjRel, hw] using hr

/-- A write: the model stores, and the relation holds behind it. -/
theorem Rel.write {μ : Inj} {h : AHeap} {w : World} (hr : Rel μ h w) {b C d S o : Nat} {xs : List AV} {us : List Value} {h' : AHeap} (hb : μ b = some (C, d, S)) (hw : wr b o xs h = some h')
    (hx : VRels μ xs us) (h1 : ∀ u ∈ us, u.oneCell' = true) :
    (storeCells ⟨C, d + o, none⟩ us).run P w = .ok () (w.setCells C (d + o) us) ∧ Rel μ h' (w.setCells C (d + o) us) ∧ Ext μ h w μ h' (w.setCells C (d + o) us) := by
  obtain ⟨hbn, hC, ob, hob, hor⟩ := hr.obj b C d S hb
  have hlen := hx.length
  -- the parts that both kinds of block share
  have ext : ∀ {h'' : AHeap}, h''.next = h.next → (∀ k, k ≠ b → h''.objs.get k = h.objs.get k) → ¬ isRo (h.objs.get b) → (∀ k, μ k = none → h''.fams.get k = h.fams.get k) →
      Ext μ h w μ h'' (w.setCells C (d + o) us) := fun {h''} e1 e2 e3 e4 =>
    { sub := Inj.le_refl _
      newA := fun _ _ h => .inl h
      newC := fun _ _ _ _ h h' => by rw [h] at h'; cases h'
      next := by rw [e1]; exact Nat.le_refl _
      size := by rw [size_setCells]; exact Nat.le_refl _
      frC := fun C' _ hro => heap_setCells_ne (fun e => e3 (hro b d S (by rw [e]; exact hb))) _ _ _
      frA := fun k _ hk => ⟨e2 k (fun e => by subst e; rw [hb] at hk; cases hk), e4 k hk⟩
      ro := fun k x _ hro => e2 k (fun e => by subst e; exact e3 hro)
      os := (os_setCells _ _ _ _).1
      output := (os_setCells _ _ _ _).2 }
  simp only [wr, hob] at hw
  cases ob with
  | solo cs =>
    obtain ⟨rfl, c, e, fz, g1, g2, g3, g4, g5⟩ := hor
    cases hle : Nat.ble (o + xs.length) cs.length with
    | false => simp [hle] at hw
    | true =>
      simp [hle] at hw
      have hle' := Nat.le_of_ble_eq_true hle
      subst hw
      refine ⟨storeCells_run g1 (g2 ▸ g5) us h1 (by omega), ?_, ext rfl (fun k hk => Tr.get_set_ne _ _ _ _ hk) (by simp [hob, isRo]) (fun _ _ => rfl)⟩
      have key : ∀ k, k ≠ b → ∀ C' d' S', μ k = some (C', d', S') → C' ≠ C := fun k hk C' d' S' hm e => by
        subst e
        obtain ⟨_, _, o', ho', _⟩ := hr.obj k C' d' S' hm
        rcases hr.sep k b C' d' S' 0 S o' _ hm hb ho' hob with rfl | hs
        · exact hk rfl
        · cases o' <;> simp [SepOK] at hs
      exact
        { obj := fun k C' d' S' hm => by
            obtain ⟨i1, i2, o', i3, i4⟩ := hr.obj k C' d' S' hm
            refine ⟨i1, by rw [size_setCells]; exact i2, ?_⟩
            by_cases hk : k = b
            · subst hk
              rw [hb] at hm; cases hm
              refine ⟨_, Tr.get_set_same _ _ _, rfl, _, e, fz, heap_setCells us _ w c g1, by rw [size_overArr]; exact g2, by rw [length_over _ _ _ hle']; exact g3, ?_, g5⟩
              exact g4.over hle' (by omega) hx
            · refine ⟨o', by rw [Tr.get_set_ne _ _ _ _ hk]; exact i3, ObjRel.congr (h := h) (w := w) (heap_setCells_ne (key k hk C' d' S' hm) _ _ _) (fun _ _ => rfl) i4⟩
          sep := fun b1 b2 C' d1 S1 d2 S2 o1 o2 m1 m2 p1 p2 => by
            by_cases k1 : b1 = b
            · by_cases k2 : b2 = b
              · exact .inl (k1.trans k2.symm)
              · subst k1; rw [hb] at m1; cases m1
                exact absurd rfl (key b2 k2 _ _ _ m2)
            · by_cases k2 : b2 = b
              · subst k2; rw [hb] at m2; cases m2
                exact absurd rfl (key b1 k1 _ _ _ m1)
              · rw [Tr.get_set_ne _ _ _ _ k1] at p1; rw [Tr.get_set_ne _ _ _ _ k2] at p2
                exact hr.sep b1 b2 C' d1 S1 d2 S2 o1 o2 m1 m2 p1 p2
          ver := fun b1 b2 x1 x2 cs1 cs2 f v m1 m2 p1 p2 => by
            by_cases k1 : b1 = b
            · subst k1; simp at p1
            · by_cases k2 : b2 = b
              · subst k2; simp at p2
              · rw [Tr.get_set_ne _ _ _ _ k1] at p1; rw [Tr.get_set_ne _ _ _ _ k2] at p2
                exact hr.ver b1 b2 x1 x2 cs1 cs2 f v m1 m2 p1 p2
          ord := fun b1 b2 C' d1 S1 d2 S2 cs1 cs2 f v1 v2 top lo m1 m2 p1 p2 => by
            by_cases k1 : b1 = b
            · subst k1; simp at p1
            · by_cases k2 : b2 = b
              · subst k2; simp at p2
              · rw [Tr.get_set_ne _ _ _ _ k1] at p1; rw [Tr.get_set_ne _ _ _ _ k2] at p2
                exact hr.ord b1 b2 C' d1 S1 d2 S2 cs1 cs2 f v1 v2 top lo m1 m2 p1 p2
          fid := fun k x cs1 f v m1 p1 => by
            by_cases k1 : k = b
            · subst k1; simp at p1
            · rw [Tr.get_set_ne _ _ _ _ k1] at p1; exact hr.fid k x cs1 f v m1 p1 }
  | ro cs => simp at hw
  | map es => simp at hw
  | row cs f v =>
    obtain ⟨top, lo, hf, hv, c, e, fz, g1, g2, g3⟩ := hor
    simp only [hf] at hw
    cases hle : (Nat.beq top v && Nat.ble (o + xs.length) cs.length) with
    | false => simp [hle] at hw
    | true =>
      simp [hle] at hw
      simp only [Bool.and_eq_true] at hle
      obtain ⟨htv, hle⟩ := hle
      obtain rfl := Nat.eq_of_beq_eq_true htv
      have hle' := Nat.le_of_ble_eq_true hle
      subst hw
      -- the block that is written is valid: its version is the last one; but is 'lo' at most that?
      have hlo : lo ≤ top := hv.2
      · obtain ⟨g4, g5, g6⟩ := g3 hlo
        obtain ⟨_, y, hfy⟩ := hr.fid b _ cs f top hb hob
        refine ⟨storeCells_run g1 (g2 ▸ g6) us h1 (by omega), ?_, ext rfl (fun k hk => Tr.get_set_ne _ _ _ _ hk) (by simp [hob, isRo])
          (fun k hk => Tr.get_set_ne _ _ _ _ (fun e => by subst e; rw [hfy] at hk; cases hk))⟩
        have old : ∀ k, k ≠ b → ∀ C' d' S', μ k = some (C', d', S') → ∀ o', h.objs.get k = some o' → ObjRel μ h w C' d' S' o' →
            ObjRel μ { h with objs := h.objs.set b (.row (Am.over cs o xs) f top), fams := h.fams.set f (top, top) } (w.setCells C (d + o) us) C' d' S' o' := fun k hk C' d' S' hm o' ho' hor' => by
          have rowcase : ∀ cs' v', o' = .row cs' f v' → ObjRel μ { h with objs := h.objs.set b (.row (Am.over cs o xs) f top), fams := h.fams.set f (top, top) } (w.setCells C (d + o) us) C' d' S' o' := fun cs' v' e' => by
            subst e'
            obtain ⟨top', lo', hf', ⟨hv', _⟩, c', e', fz', q1, q2, q3⟩ := hor'
            rw [hf] at hf'; cases hf'
            have hne : v' ≠ top := fun ev => hk (hr.ver k b _ _ cs' cs f top hm hb (ev ▸ ho') hob)
            by_cases hCC : C' = C
            · subst hCC
              rw [g1] at q1; cases q1
              exact ⟨top, top, Tr.get_set_same _ _ _, ⟨hv', Nat.le_refl _⟩, _, e, fz, heap_setCells us _ w c g1, by rw [size_overArr]; exact q2, fun hc => by omega⟩
            · exact ⟨top, top, Tr.get_set_same _ _ _, ⟨hv', Nat.le_refl _⟩, c', e', fz', by rw [heap_setCells_ne hCC]; exact q1, q2, fun hc => by omega⟩
          by_cases hfam : ∃ cs' v', o' = .row cs' f v'
          · obtain ⟨cs', v', e'⟩ := hfam; exact rowcase cs' v' e'
          · have hCC : C' ≠ C := fun e' => by
              subst e'
              rcases hr.sep k b C' d' S' d S o' _ hm hb ho' hob with rfl | hs
              · exact hk rfl
              · cases o' <;> simp [SepOK] at hs
                case row cs' f' v' => subst hs; exact hfam ⟨cs', v', rfl⟩
            refine ObjRel.congr (h := h) (w := w) (heap_setCells_ne hCC _ _ _) (fun g hg => ?_) hor'
            refine Tr.get_set_ne _ _ _ _ (fun e' => ?_)
            subst e'
            cases o' <;> simp at hg
            case row cs' f' v' => subst hg; exact hfam ⟨cs', v', rfl⟩
        have getrow : ∀ k cs' f' v', (h.objs.set b (.row (Am.over cs o xs) f top)).get k = some (.row cs' f' v') → ∃ cs0, h.objs.get k = some (.row cs0 f' v') ∧ cs0.length = cs'.length := fun k cs' f' v' hk => by
          by_cases e' : k = b
          · subst e'; simp at hk; obtain ⟨rfl, rfl, rfl⟩ := hk; exact ⟨cs, hob, (length_over _ _ _ hle').symm⟩
          · rw [Tr.get_set_ne _ _ _ _ e'] at hk; exact ⟨cs', hk, rfl⟩
        exact
          { obj := fun k C' d' S' hm => by
              obtain ⟨i1, i2, o', i3, i4⟩ := hr.obj k C' d' S' hm
              refine ⟨i1, by rw [size_setCells]; exact i2, ?_⟩
              by_cases hk : k = b
              · subst hk
                rw [hb] at hm; cases hm
                refine ⟨_, Tr.get_set_same _ _ _, top, top, Tr.get_set_same _ _ _, ⟨Nat.le_refl _, Nat.le_refl _⟩, _, e, fz, heap_setCells us _ w c g1, by rw [size_overArr]; exact g2, fun _ => ⟨by rw [length_over _ _ _ hle']; exact g4, g5.over hle' (by omega) hx, g6⟩⟩
              · exact ⟨o', by rw [Tr.get_set_ne _ _ _ _ hk]; exact i3, old k hk C' d' S' hm o' i3 i4⟩
            sep := fun b1 b2 C' d1 S1 d2 S2 o1 o2 m1 m2 p1 p2 => by
              have conv : ∀ k o', (h.objs.set b (.row (Am.over cs o xs) f top)).get k = some o' → ∃ o0, h.objs.get k = some o0 ∧ (∀ x, SepOK o0 x → SepOK o' x) ∧ (∀ x, SepOK x o0 → SepOK x o') := fun k o' hk => by
                by_cases e' : k = b
                · subst e'; simp at hk; subst hk; exact ⟨_, hob, fun x hx => by cases x <;> first | exact hx | exact hx.elim, fun x hx => by cases x <;> first | exact hx | exact hx.elim⟩
                · rw [Tr.get_set_ne _ _ _ _ e'] at hk; exact ⟨o', hk, fun _ h => h, fun _ h => h⟩
              obtain ⟨q1, r1, s1, t1⟩ := conv _ _ p1
              obtain ⟨q2, r2, s2, t2⟩ := conv _ _ p2
              rcases hr.sep b1 b2 C' d1 S1 d2 S2 q1 q2 m1 m2 r1 r2 with h0 | h0
              · exact .inl h0
              · exact .inr (s1 _ (t2 _ h0))
            ver := fun b1 b2 x1 x2 cs1 cs2 f' v' m1 m2 p1 p2 => by
              obtain ⟨c1, p1', _⟩ := getrow _ _ _ _ p1
              obtain ⟨c2, p2', _⟩ := getrow _ _ _ _ p2
              exact hr.ver b1 b2 x1 x2 c1 c2 f' v' m1 m2 p1' p2'
            ord := fun b1 b2 C' d1 S1 d2 S2 cs1 cs2 f' v1 v2 top' lo' m1 m2 p1 p2 pf l1 l2 => by
              obtain ⟨c1, p1', e1⟩ := getrow _ _ _ _ p1
              obtain ⟨c2, p2', e2⟩ := getrow _ _ _ _ p2
              by_cases ef : f' = f
              · subst ef
                simp at pf; obtain ⟨rfl, rfl⟩ := pf
                obtain ⟨_, _, o2', ho2, hor2⟩ := hr.obj b2 _ _ _ m2
                rw [p2'] at ho2; cases ho2
                obtain ⟨t2, lo2, hf2, ⟨hv2, _⟩, _⟩ := hor2
                rw [hf] at hf2; cases hf2
                have : v1 = v2 := by omega
                subst this
                have := hr.ver b1 b2 _ _ c1 c2 f' v1 m1 m2 p1' p2'
                subst this
                rw [m1] at m2; cases m2
                rw [p1] at p2; cases p2
                exact Nat.le_refl _
              · simp only [Tr.get_set_ne _ _ _ _ ef] at pf
                have := hr.ord b1 b2 C' d1 S1 d2 S2 c1 c2 f' v1 v2 top' lo' m1 m2 p1' p2' pf l1 l2
                omega
            fid := fun k x cs1 f' v' m1 p1 => by
              obtain ⟨c1, p1', _⟩ := getrow _ _ _ _ p1
              exact hr.fid k x c1 f' v' m1 p1' }
end Go.Am
/- The abstract machine against the model: a new block. -/
namespace Go.Am

def addInj (μ : Inj) (b : Nat) (x : Nat × Nat × Nat) : Inj := fun k => if k = b then some x else μ k
theorem addInj_same (μ : Inj) (b : Nat) (x : Nat × Nat × Nat) : addInj μ b x b = some x := by simp [addInj]
theorem addInj_ne (μ : Inj) (b : Nat) (x : Nat × Nat × Nat) (k : Nat) (h : k ≠ b) : addInj μ b x k = μ k := by simp [addInj, h]
theorem Rel.none_next {μ : Inj} {h : AHeap} {w : World} (hr : Rel μ h w) {b : Nat} (hb : h.next ≤ b) : μ b = none := by
  cases hm : μ b with
  | none => rfl
  | some x => obtain ⟨C, d, S⟩ := x; have := (hr.obj b C d S hm).1; omega
theorem Rel.le_add {μ : Inj} {h : AHeap} {w : World} (hr : Rel μ h w) (x : Nat × Nat × Nat) : μ.le (addInj μ h.next x) := fun b y hb => by
  rw [addInj_ne _ _ _ _ (fun e => by subst e; rw [hr.none_next (Nat.le_refl _)] at hb; cases hb)]; exact hb

theorem CellsRel.mono {μ μ' : Inj} (hm : μ.le μ') {cs : List AV} {c : Array Value} {d : Nat} (h : CellsRel μ cs c d) : CellsRel μ' cs c d := fun i v hv => by
  obtain ⟨u, h1, h2⟩ := h i v hv; exact ⟨u, h1, h2.mono hm⟩
theorem EntsRel.mono {μ μ' : Inj} (hm : μ.le μ') : ∀ {es : List (AV × AV)} {l : List MapEntry}, EntsRel μ es l → EntsRel μ' es l
  | [], _, h => h
  | (k, v) :: es, _, h => by obtain ⟨e, l', rfl, h1, h2, h3⟩ := h; exact ⟨e, l', rfl, h1.mono hm, h2.mono hm, h3.mono hm⟩
theorem ObjRel.mono {μ μ' : Inj} (hm : μ.le μ') {h : AHeap} {w : World} {C d S : Nat} {o : AObj} (hr : ObjRel μ h w C d S o) : ObjRel μ' h w C d S o := by
  cases o with
  | solo cs => obtain ⟨h1, c, e, fz, h2, h3, h4, h5, h6⟩ := hr; exact ⟨h1, c, e, fz, h2, h3, h4, h5.mono hm, h6⟩
  | ro cs => obtain ⟨c, e, fz, h2, h3, h4, h5⟩ := hr; exact ⟨c, e, fz, h2, h3, h4, h5.mono hm⟩
  | row cs f v =>
    obtain ⟨top, lo, h1, h2, c, e, fz, h3, h4, h5⟩ := hr
    exact ⟨top, lo, h1, h2, c, e, fz, h3, h4, fun h => by obtain ⟨a, b, c⟩ := h5 h; exact ⟨a, b.mono hm, c⟩⟩
  | map es => obtain ⟨h1, e, c, h2, h3⟩ := hr; exact ⟨h1, e, c, h2, h3.mono hm⟩

theorem heap_push_lt {w w' : World} {obj : Obj} (hw : w'.heap = w.heap.push obj) {C : Nat} (h : C < w.heap.size) : w'.heap[C]? = w.heap[C]? := by
  rw [hw, Array.getElem?_push_lt h, Array.getElem?_eq_getElem h]
theorem heap_push_new {w w' : World} {obj : Obj} (hw : w'.heap = w.heap.push obj) : w'.heap[w.heap.size]? = some obj := by
  rw [hw]; simp

/-- A new block of its own kind: a variable, a map, the array of a new slice. -/
theorem Rel.alloc {μ : Inj} {h : AHeap} {w w' : World} (hr : Rel μ h w) {obj : Obj} (hw : w'.heap = w.heap.push obj) (hos : w'.os = w.os) (hout : w'.output = w.output) {o : AObj} {S : Nat} {fams' : Tr (Nat × Nat)}
    (hf : (∀ cs f v, o ≠ .row cs f v) ∧ fams' = h.fams ∨ (∃ cs, o = .row cs h.next 0) ∧ fams' = h.fams.set h.next (0, 0))
    (ho : ObjRel (addInj μ h.next (w.heap.size, 0, S)) { next := h.next + 1, objs := h.objs.set h.next o, fams := fams' } w' w.heap.size 0 S o) :
    Rel (addInj μ h.next (w.heap.size, 0, S)) { next := h.next + 1, objs := h.objs.set h.next o, fams := fams' } w' ∧
    Ext μ h w (addInj μ h.next (w.heap.size, 0, S)) { next := h.next + 1, objs := h.objs.set h.next o, fams := fams' } w' := by
  have hle := hr.le_add (w.heap.size, 0, S)
  have famold : ∀ k, k < h.next → fams'.get k = h.fams.get k := fun k hk => by
    rcases hf with ⟨_, rfl⟩ | ⟨_, rfl⟩
    · rfl
    · exact Tr.get_set_ne _ _ _ _ (by omega)
  have size : w'.heap.size = w.heap.size + 1 := by rw [hw]; simp
  have famlt : ∀ k C d S cs f v, μ k = some (C, d, S) → h.objs.get k = some (.row cs f v) → f < h.next := fun k C d S cs f v hm hk => by
    obtain ⟨_, ⟨C', d', S'⟩, hy⟩ := hr.fid k _ cs f v hm hk
    exact (hr.obj f C' d' S' hy).1
  refine ⟨?_, ?_⟩
  · have old : ∀ k C d S', addInj μ h.next (w.heap.size, 0, S) k = some (C, d, S') → k ≠ h.next → μ k = some (C, d, S') ∧ k < h.next ∧ C < w.heap.size := fun k C d S' hm hk => by
      rw [addInj_ne _ _ _ _ hk] at hm
      obtain ⟨h1, h2, _⟩ := hr.obj k C d S' hm
      exact ⟨hm, h1, h2⟩
    exact
      { obj := fun k C d S' hm => by
          by_cases hk : k = h.next
          · subst hk
            rw [addInj_same] at hm; cases hm
            exact ⟨by simp, by rw [size]; omega, o, Tr.get_set_same _ _ _, ho⟩
          · obtain ⟨hm', h1, h2⟩ := old k C d S' hm hk
            obtain ⟨_, _, o', i3, i4⟩ := hr.obj k C d S' hm'
            refine ⟨by simp; omega, by rw [size]; omega, o', by simp only [Tr.get_set_ne _ _ _ _ hk]; exact i3, ?_⟩
            refine ObjRel.congr (h := h) (w := w) (heap_push_lt hw h2) (fun g hg => ?_) (i4.mono hle)
            cases o' <;> simp at hg
            case row cs f v => subst hg; exact famold g (famlt k C d S' cs g v hm' i3)
        sep := fun b1 b2 C d1 S1 d2 S2 o1 o2 m1 m2 p1 p2 => by
          by_cases k1 : b1 = h.next
          · by_cases k2 : b2 = h.next
            · exact .inl (k1.trans k2.symm)
            · subst k1; rw [addInj_same] at m1; cases m1
              have := (old b2 _ _ _ m2 k2).2.2; omega
          · by_cases k2 : b2 = h.next
            · subst k2; rw [addInj_same] at m2; cases m2
              have := (old b1 _ _ _ m1 k1).2.2; omega
            · simp only [Tr.get_set_ne _ _ _ _ k1] at p1; simp only [Tr.get_set_ne _ _ _ _ k2] at p2
              exact hr.sep b1 b2 C d1 S1 d2 S2 o1 o2 (old _ _ _ _ m1 k1).1 (old _ _ _ _ m2 k2).1 p1 p2
        ver := fun b1 b2 x1 x2 cs1 cs2 f v m1 m2 p1 p2 => by
          obtain ⟨C1, d1, S1⟩ := x1
          obtain ⟨C2, d2, S2⟩ := x2
          by_cases k1 : b1 = h.next
          · by_cases k2 : b2 = h.next
            · exact k1.trans k2.symm
            · simp only [k1, Tr.get_set_same, Option.some.injEq] at p1
              rcases hf with ⟨hf, _⟩ | ⟨⟨cs, e⟩, _⟩
              · exact absurd p1 (hf _ _ _)
              · rw [e] at p1; cases p1
                simp only [Tr.get_set_ne _ _ _ _ k2] at p2
                have := famlt b2 _ _ _ cs2 _ _ (old _ _ _ _ m2 k2).1 p2; omega
          · by_cases k2 : b2 = h.next
            · simp only [k2, Tr.get_set_same, Option.some.injEq] at p2
              rcases hf with ⟨hf, _⟩ | ⟨⟨cs, e⟩, _⟩
              · exact absurd p2 (hf _ _ _)
              · rw [e] at p2; cases p2
                simp only [Tr.get_set_ne _ _ _ _ k1] at p1
                have := famlt b1 _ _ _ cs1 _ _ (old _ _ _ _ m1 k1).1 p1; omega
            · simp only [Tr.get_set_ne _ _ _ _ k1] at p1; simp only [Tr.get_set_ne _ _ _ _ k2] at p2
              exact hr.ver b1 b2 _ _ cs1 cs2 f v (old _ _ _ _ m1 k1).1 (old _ _ _ _ m2 k2).1 p1 p2
        ord := fun b1 b2 C d1 S1 d2 S2 cs1 cs2 f v1 v2 top lo m1 m2 p1 p2 pf l1 l2 => by
          by_cases k1 : b1 = h.next
          · by_cases k2 : b2 = h.next
            · subst k1; subst k2; rw [m1] at m2; cases m2; rw [p1] at p2; cases p2; exact Nat.le_refl _
            · subst k1; rw [addInj_same] at m1; cases m1
              have := (old b2 _ _ _ m2 k2).2.2; omega
          · by_cases k2 : b2 = h.next
            · subst k2; rw [addInj_same] at m2; cases m2
              have := (old b1 _ _ _ m1 k1).2.2; omega
            · simp only [Tr.get_set_ne _ _ _ _ k1] at p1; simp only [Tr.get_set_ne _ _ _ _ k2] at p2
              have q1 := (old _ _ _ _ m1 k1).1
              rw [famold f (famlt b1 _ _ _ _ _ _ q1 p1)] at pf
              exact hr.ord b1 b2 C d1 S1 d2 S2 cs1 cs2 f v1 v2 top lo q1 (old _ _ _ _ m2 k2).1 p1 p2 pf l1 l2
        fid := fun k x cs f v m1 p1 => by
          obtain ⟨C, d, S'⟩ := x
          by_cases k1 : k = h.next
          · simp only [k1, Tr.get_set_same, Option.some.injEq] at p1
            rcases hf with ⟨hf, _⟩ | ⟨⟨cs', e⟩, _⟩
            · exact absurd p1 (hf _ _ _)
            · rw [e] at p1; cases p1; exact ⟨Nat.le_of_eq k1.symm, _, addInj_same _ _ _⟩
          · simp only [Tr.get_set_ne _ _ _ _ k1] at p1
            obtain ⟨hle', y, hy⟩ := hr.fid k _ cs f v (old _ _ _ _ m1 k1).1 p1
            exact ⟨hle', y, hle _ _ hy⟩ }
  · exact
      { sub := hle
        newA := fun b x hb => by
          by_cases hk : b = h.next
          · exact .inr (Nat.le_of_eq hk.symm)
          · rw [addInj_ne _ _ _ _ hk] at hb; exact .inl hb
        newC := fun b C d S' hb hn => by
          by_cases hk : b = h.next
          · subst hk; rw [addInj_same] at hb; cases hb; exact .inl (Nat.le_refl _)
          · rw [addInj_ne _ _ _ _ hk] at hb; rw [hb] at hn; cases hn
        next := Nat.le_succ _
        size := by rw [size]; omega
        frC := fun C hC _ => heap_push_lt hw hC
        frA := fun b hb _ => ⟨Tr.get_set_ne _ _ _ _ (by omega), famold b hb⟩
        ro := fun b x hb _ => by
          obtain ⟨C, d, S'⟩ := x
          exact Tr.get_set_ne _ _ _ _ (by have := (hr.obj b C d S' hb).1; omega)
        os := hos
        output := hout }
end Go.Am
