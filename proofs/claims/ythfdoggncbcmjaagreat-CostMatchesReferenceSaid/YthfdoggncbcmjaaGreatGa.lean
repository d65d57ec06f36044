/- An evaluator for the model's code over an abstract heap: the values, the heap, the operations. No conditions: these are definitions. -/
import Derived.RangeFuncLeaves
import Derived.LoopNIn
import Derived.Laws.Cells

set_option linter.unusedSimpArgs false
set_option linter.unusedVariables false
set_option linter.unusedSectionVars false

namespace Go.Ev
noncomputable section

/-- Abstract values. -/
inductive AV where
  | bool (b : Bool)
  | int (k : IntKind) (n : Int)
  | str (s : List Nat)
  | ptr (o : Option (Nat × Nat))
  | slice (o : Option (Nat × Nat)) (len esz : Nat) (cap : Option Nat)
  | map (o : Option Nat)
  | fn (f : Fn) (first cap : List AV)
  | nilFn
  | iface (t : TypeId) (v : AV)
  | nilI
  | agg (cs : List AV)
  | tup (vs : List AV)
  deriving Inhabited

def AV.cells : AV → List AV
  | .agg cs => cs
  | v => [v]

def und : AV := .tup []

/-- A binary trie on numbers. -/
inductive Tr (α : Type) where
  | nil
  | node (v : Option α) (l r : Tr α)
  deriving Inhabited

/-- Where a number goes on to: odd to the left, even to the right. -/
def Tr.get {α : Type} (t : Tr α) : Nat → Option α :=
  Tr.rec (motive := fun _ => Nat → Option α) (fun _ => none) (fun v _ _ l r k => Bool.rec (Bool.rec (r (Nat.div (Nat.sub k 1) 2)) (l (Nat.div (Nat.sub k 1) 2)) (Nat.beq (Nat.mod k 2) 1)) v (Nat.beq k 0)) t

def Tr.lone {α : Type} (x : Option α) (fuel : Nat) : Nat → Tr α :=
  Nat.rec (motive := fun _ => Nat → Tr α) (fun _ => .nil) (fun _ f k => Bool.rec (Bool.rec (.node none .nil (f (Nat.div (Nat.sub k 1) 2))) (.node none (f (Nat.div (Nat.sub k 1) 2)) .nil) (Nat.beq (Nat.mod k 2) 1)) (.node x .nil .nil) (Nat.beq k 0)) fuel

def Tr.put {α : Type} (t : Tr α) (k : Nat) (x : Option α) : Tr α :=
  Tr.rec (motive := fun _ => Nat → Tr α) (fun k => Tr.lone x (Nat.succ k) k)
    (fun v l r pl pr k => Bool.rec (Bool.rec (.node v l (pr (Nat.div (Nat.sub k 1) 2))) (.node v (pl (Nat.div (Nat.sub k 1) 2)) r) (Nat.beq (Nat.mod k 2) 1)) (.node x l r) (Nat.beq k 0)) t k

/-- A deferred call; fn = none: the mark of the block blk. -/
structure ADf where
  fn : Option Fn
  blk : Nat
  args : List AV
  cap : List AV
  deriving Inhabited

inductive AO where
  | cells (cs : List AV) (fam : Nat)
  | ro (cs : List AV)
  | map (es : List (AV × AV × Nat)) (clock : Nat)
  | siter (s : List Nat) (pos : Nat)
  | miter (m : Option Nat) (since : Nat) (seen : List Nat) (stepped : Nat)
  | loop (st : LoopState) (pending : Option Code) (t : Tr AV) (n : Nat) (params : Array Tmp) (assign body : Code) (dfr : Nat)
  | dfr (taken : Bool)
  deriving Inhabited

/-- The heap: the objects; of each family the (at most two) blocks that are held; the next number; no object below 'low' has been changed since 'low' was laid. -/
structure H where
  objs : Tr AO
  fams : Tr (Nat × Nat)
  next : Nat
  low : Nat
  deriving Inhabited

def minN (a b : Nat) : Nat := cond (Nat.ble a b) a b

structure St where
  t : Tr AV
  n : Nat
  h : H
  ds : List ADf
  deriving Inhabited

abbrev R (α : Type) := Option (List α)

def joinR {α β : Type} (f : α → R β) : List α → R β
  | [] => some []
  | [x] => f x
  | x :: xs => match f x, joinR f xs with
    | some a, some b => some (a ++ b)
    | _, _ => none

def bindR {α β : Type} (r : R α) (f : α → R β) : R β := match r with
  | some l => joinR f l
  | none => none

def one {α : Type} (x : α) : R α := some [x]

/-! ### Values -/

def absV : Nat → Value → Option AV
  | 0, _ => none
  | n + 1, v => match v with
    | .bool b => some (.bool b)
    | .int k n => some (.int k n)
    | .string s => some (.str (s.data.toList.map (·.toNat)))
    | .pointer none => some (.ptr none)
    | .slice none 0 0 => some (.slice none 0 0 (some 0))
    | .map none => some (.map none)
    | .nilFunc => some .nilFn
    | .nilIface => some .nilI
    | .agg cs => (cs.toList.mapM (absV n)).map .agg
    | .tuple cs => (cs.toList.mapM (absV n)).map .tup
    | .iface t v => (absV n v).map (.iface t)
    | _ => none

def depthV : Nat := 6

def leI (a b : Int) : Bool := match b - a with
  | .ofNat _ => true
  | .negSucc _ => false

def loK : IntKind → Int
  | .i8 => -128 | .i16 => -32768 | .i32 => -2147483648 | .i64 => -9223372036854775808 | _ => 0
def hiK : IntKind → Int
  | .i8 => 127 | .i16 => 32767 | .i32 => 2147483647 | .i64 => 9223372036854775807
  | .u8 => 255 | .u16 => 65535 | .u32 => 4294967295 | .u64 => 18446744073709551615

def wrapA (k : IntKind) (n : Int) : Int := cond (leI (loK k) n && leI n (hiK k)) n (k.wrap n)

def eqI (a b : Int) : Bool := leI a b && leI b a

def eqL : List Nat → List Nat → Bool
  | [], [] => true
  | a :: x, b :: y => Nat.beq a b && eqL x y
  | _, _ => false

def ltL : List Nat → List Nat → Bool
  | _, [] => false
  | [], _ :: _ => true
  | a :: x, b :: y => Nat.blt a b || (Nat.beq a b && ltL x y)

def kEq (a b : IntKind) : Bool := match a, b with
  | .i8, .i8 | .i16, .i16 | .i32, .i32 | .i64, .i64 | .u8, .u8 | .u16, .u16 | .u32, .u32 | .u64, .u64 => true
  | _, _ => false

def sizeA (P : Program) (t : TypeId) : Option Nat := (P.info? t).map (·.size)

def isAggA (P : Program) (t : TypeId) : Option Bool := (P.underlying t).map fun
  | .struct _ | .array _ _ => true
  | _ => false

def zeroA (P : Program) (t : TypeId) : Option AV := (P.info? t).bind fun i => i.zero.bind (absV depthV)

/-- The part of a value's cells at an offset. -/
def partA (P : Program) (t : TypeId) (cs : List AV) (off : Nat) : Option AV :=
  match isAggA P t with
  | some true => (sizeA P t).bind fun n => cond (Nat.ble (off + n) cs.length) (some (.agg ((cs.drop off).take n))) none
  | some false => cs[off]?
  | none => none

def eqFields (P : Program) (eq : TypeId → AV → AV → Option Bool) : List Field → List AV → List AV → Option Bool
  | [], _, _ => some true
  | f :: fs, xs, ys =>
    cond (f.name == "_") none
      (match partA P f.type xs f.offset, partA P f.type ys f.offset with
       | some a, some b => match eq f.type a b with
         | some true => eqFields P eq fs xs ys
         | r => r
       | _, _ => none)

def eqElems (P : Program) (eq : AV → AV → Option Bool) (e s : Nat) (xs ys : List AV) : Nat → Nat → Option Bool
  | 0, _ => some true
  | m + 1, i => match partA P e xs (i * s), partA P e ys (i * s) with
    | some a, some b => match eq a b with
      | some true => eqElems P eq e s xs ys m (i + 1)
      | r => r
    | _, _ => none

/-- Equality of two values of one type; none: not served. -/
def eqA (P : Program) : Nat → TypeId → AV → AV → Option Bool
  | 0, _, _, _ => none
  | d + 1, t, x, y =>
    match P.underlying t, x, y with
    | some .bool, .bool a, .bool b => some (a == b)
    | some (.int _), .int k a, .int k' b => cond (kEq k k') (some (eqI a b)) none
    | some .string, .str a, .str b => some (eqL a b)
    | some (.pointer _), .ptr none, .ptr b => some b.isNone
    | some (.pointer _), .ptr (some _), .ptr none => some false
    | some (.slice _), .slice none _ _ _, .slice b _ _ _ => some b.isNone
    | some (.slice _), .slice (some _) _ _ _, .slice none _ _ _ => some false
    | some (.map _ _), .map none, .map b => some b.isNone
    | some (.map _ _), .map (some _), .map none => some false
    | some (.func _ _ _), .nilFn, .nilFn => some true
    | some (.func _ _ _), .nilFn, .fn .. => some false
    | some (.func _ _ _), .fn .., .nilFn => some false
    | some (.struct fs), .agg xs, .agg ys =>
      cond (P.stoodInHeld t) none (eqFields P (eqA P d) fs.toList xs ys)
    | some (.array n e), .agg xs, .agg ys => (sizeA P e).bind fun s => eqElems P (eqA P d e) e s xs ys n 0
    | _, _, _ => none

end
end Go.Ev

/- The evaluator's operations on the abstract heap. No conditions: these are definitions. -/
namespace Go.Ev
noncomputable section

def all2 (eq : AV → AV → Bool) : List AV → List AV → Bool
  | [], [] => true
  | x :: xs, y :: ys => eq x y && all2 eq xs ys
  | _, _ => false

def eqTop : Nat → AV → AV → Bool
  | 0, _, _ => false
  | n + 1, a, b => match a, b with
    | .bool a, .bool b => a == b
    | .int k a, .int k' b => kEq k k' && eqI a b
    | .str a, .str b => eqL a b
    | .ptr none, .ptr none => true
    | .ptr (some (a, b)), .ptr (some (c, d)) => Nat.beq a c && Nat.beq b d
    | .slice (some (a, b)) l e c, .slice (some (a', b')) l' e' c' => Nat.beq a a' && Nat.beq b b' && Nat.beq l l' && Nat.beq e e' && (match c, c' with | none, none => true | some x, some y => Nat.beq x y | _, _ => false)
    | .slice none l e (some c), .slice none l' e' (some c') => Nat.beq l l' && Nat.beq e e' && Nat.beq c c'
    | .map none, .map none => true
    | .map (some a), .map (some b) => Nat.beq a b
    | .nilFn, .nilFn => true
    | .nilI, .nilI => true
    | .agg xs, .agg ys => all2 (eqTop n) xs ys
    | .tup xs, .tup ys => all2 (eqTop n) xs ys
    | .fn (.yield f) [] [], .fn (.yield f') [] [] => Nat.beq f f'
    | .fn (.func f) xs ys, .fn (.func f') xs' ys' => Nat.beq f f' && (all2 (eqTop n) xs xs' && all2 (eqTop n) ys ys')
    | .iface t x, .iface t' y => Nat.beq t t' && eqTop n x y
    | _, _ => false

def flatA : AV → Bool
  | .bool _ | .int _ _ | .str _ => true
  | _ => false

def plainK : AV → Bool
  | .agg cs => cs.all flatA
  | v => flatA v

/-- The key that stays is the same to the bit. -/
def stays (k old : AV) : Bool := plainK k && eqTop 3 k old


def H.cellsOf (h : H) (id : Nat) : Option (List AV × Nat) := match h.objs.get id with
  | some (.cells cs fam) => some (cs, fam)
  | _ => none

def H.newCells (h : H) (cs : List AV) : Nat × H :=
  (h.next, { h with objs := h.objs.put h.next (some (.cells cs h.next)), fams := h.fams.put h.next (some (h.next, h.next)), next := h.next + 1 })

def H.newObj (h : H) (o : AO) : Nat × H := (h.next, { h with objs := h.objs.put h.next (some o), next := h.next + 1 })

/-- All other blocks of a family are given up. -/
def H.alone (h : H) (id fam : Nat) : H := match h.fams.get fam with
  | some (x, y) =>
    cond (Nat.beq x id && Nat.beq y id) h
      { h with objs := cond (Nat.beq y id) (h.objs.put x none) (cond (Nat.beq x id) (h.objs.put y none) ((h.objs.put x none).put y none)), fams := h.fams.put fam (some (id, id)), low := minN h.low (minN x y) }
  | none => h

/-- A value of one cell. -/
def oneC : AV → Bool
  | .agg _ | .tup _ => false
  | _ => true

/-- A block, cut short, and another one that may lie in its place. -/
def H.forked (h : H) (id fam : Nat) (old new : List AV) : H :=
  let h1 := h.alone id fam
  { objs := (h1.objs.put id (some (.cells old fam))).put h1.next (some (.cells new fam)), fams := h1.fams.put fam (some (id, h1.next)), next := h1.next + 1, low := minN h1.low id }

def H.store (h : H) (id off : Nat) (vs : List AV) : Option H := match h.objs.get id with
  | some (.cells cs fam) =>
    cond (Nat.ble (off + vs.length) cs.length && vs.all oneC)
      (let h1 := h.alone id fam
       some { h1 with objs := h1.objs.put id (some (.cells (cs.take off ++ (vs ++ cs.drop (off + vs.length))) fam)), low := minN h1.low id })
      none
  | _ => none

/-- n cells from an offset. -/
def H.chunk (h : H) (id off n : Nat) : Option (List AV) := match h.objs.get id with
  | some (.cells cs _) => cond (Nat.ble (off + n) cs.length) (some ((cs.drop off).take n)) none
  | some (.ro cs) => cond (Nat.ble (off + n) cs.length) (some ((cs.drop off).take n)) none
  | _ => none

def H.load (P : Program) (h : H) (t : TypeId) (id off : Nat) : Option AV := match isAggA P t with
  | some true => (sizeA P t).bind fun n => (h.chunk id off n).map .agg
  | some false => match h.objs.get id with
    | some (.cells cs _) => cs[off]?
    | some (.ro cs) => cs[off]?
    | _ => none
  | none => none

def H.storeVar (P : Program) (h : H) (t : TypeId) (id off : Nat) (v : AV) : Option H :=
  (sizeA P t).bind fun n => cond (Nat.beq v.cells.length n) (h.store id off v.cells) none

def ev (t : Tr AV) : Operand → Option AV
  | .tmp i => some (match t.get i with | some v => v | none => und)
  | .const v => absV depthV v
  | .func f => some (.fn (.func f) [] [])
  | .global _ => none

def evo (t : Tr AV) (y : Option Operand) : Option (Option AV) := match y with
  | none => some none
  | some y => (ev t y).map some

def evs (t : Tr AV) (l : List Operand) : Option (List AV) := l.mapM (ev t)

/-- A part laid into cells. -/
def fillA (place : Nat → Option (Nat × Nat)) (cells : List AV) : List (Nat × AV) → Option (List AV)
  | [] => some cells
  | (i, v) :: rest => match place i with
    | none => none
    | some (off, size) =>
      cond (Nat.beq v.cells.length size && Nat.ble (off + size) cells.length)
        (fillA place (cells.take off ++ (v.cells ++ cells.drop (off + size))) rest) none

def rep (zero : List AV) : Nat → List AV
  | 0 => []
  | n + 1 => zero ++ rep zero n

def partsA (t : Tr AV) (l : List (Nat × Operand)) : Option (List (Nat × AV)) := l.mapM fun p => (ev t p.2).map fun v => (p.1, v)

def placeA (P : Program) (fs : Array Field) (i : Nat) : Option (Nat × Nat) := (fs[i]?).bind fun f => (sizeA P f.type).map fun s => (f.offset, s)

def buildA (P : Program) (t : TypeId) (parts : List (Nat × AV)) : Option AV :=
  (zeroA P t).bind fun z => match P.underlying t with
    | some (.struct fs) => cond (fs.toList.all fun f => (sizeA P f.type).isSome) ((fillA (placeA P fs) z.cells parts).map .agg) none
    | some (.array _ e) => (sizeA P e).bind fun s => (fillA (fun i => some (i * s, s)) z.cells parts).map .agg
    | _ => none

def natOf : AV → Option Nat
  | .int _ (.ofNat n) => some n
  | _ => none

def buildSliceA (P : Program) (t : TypeId) (len : Nat) (parts : List (Nat × AV)) : Option (Nat × List AV) :=
  match P.underlying t with
  | some (.slice e) =>
    (sizeA P e).bind fun s => (zeroA P e).bind fun z =>
      cond (Nat.ble (len * s) 16777216 && (Nat.beq z.cells.length s && !(Nat.beq s 0)))
        ((fillA (fun i => some (i * s, s)) (rep z.cells len) parts).map fun cs => (s, cs))
        none
  | _ => none

def cmpA (op : BinOp) (a b : Int) : Option AV := match op with
  | .eql => some (.bool (eqI a b))
  | .neq => some (.bool (!(eqI a b)))
  | .lss => some (.bool (!(leI b a)))
  | .leq => some (.bool (leI a b))
  | .gtr => some (.bool (!(leI a b)))
  | .geq => some (.bool (leI b a))
  | _ => none

def isZ : Int → Bool
  | .ofNat n => Nat.beq n 0
  | _ => false

def binA (P : Program) (op : BinOp) (t : TypeId) (x y : AV) : Option AV :=
  match x, y with
  | .int k a, .int k' b =>
    match op with
    | .shl | .shr => cond (leI 0 b && leI b 64) (match op with
        | .shl => some (.int k (wrapA k (a * ((2 ^ (min b.toNat k.bits) : Nat) : Int))))
        | _ => some (.int k (a.fdiv ((2 ^ (min b.toNat k.bits) : Nat) : Int)))) none
    | _ =>
    cond (kEq k k')
      (match op with
       | .add => some (.int k (wrapA k (a + b)))
       | .sub => some (.int k (wrapA k (a - b)))
       | .mul => some (.int k (wrapA k (a * b)))
       | .quo => cond (isZ b) none (some (.int k (wrapA k (a.tdiv b))))
       | .rem => cond (isZ b) none (some (.int k (a.tmod b)))
       | .and | .or | .xor | .andNot => none
       | _ => cmpA op a b) none
  | .str a, .str b => match op with
    | .add => cond (Nat.ble (a.length + b.length) 1000000) (some (.str (a ++ b))) none
    | .eql => some (.bool (eqL a b))
    | .neq => some (.bool (!(eqL a b)))
    | .lss => some (.bool (ltL a b))
    | .leq => some (.bool (ltL a b || eqL a b))
    | .gtr => some (.bool (!(ltL a b || eqL a b)))
    | .geq => some (.bool (!(ltL a b)))
    | _ => none
  | .nilI, _ => none
  | x, y => match op with
    | .eql => cond (P.eqGuardType P.depth t) none ((eqA P 8 t x y).map .bool)
    | .neq => cond (P.eqGuardType P.depth t) none ((eqA P 8 t x y).map fun b => .bool (!b))
    | _ => none

def unA (op : UnOp) (x : AV) : Option AV := match op, x with
  | .neg, .int k n => some (.int k (wrapA k (0 - n)))
  | .not, .bool b => some (.bool (!b))
  | _, _ => none

def convA (P : Program) (src dst : TypeId) (x : AV) : Option AV := match P.underlying src, P.underlying dst, x with
  | some _, some (.int k), .int _ n => some (.int k (wrapA k n))
  | some _, some .string, .str s => some (.str s)
  | _, _, _ => none

def fitsA (len : Nat) (cap : Option Nat) (n : Nat) : Bool := Nat.ble n len || (match cap with | some c => Nat.ble n c | none => false)

def highA (len : Nat) (cap : Option Nat) (hi : Option AV) : Option Nat := match hi with
  | some v => (natOf v).bind fun h => cond (fitsA len cap h) (some h) none
  | none => some len

/-- Bounds of a slice expression over a slice: low, high, max (none: the capacity, unknown). -/
def boundsA (len : Nat) (cap : Option Nat) (lo hi mx : Option AV) : Option (Nat × Nat × Option Nat) :=
  match mx with
  | some v => (natOf v).bind fun m => cond (fitsA len cap m)
      (match hi with
       | some v => (natOf v).bind fun h => cond (Nat.ble h m)
          (match lo with
           | some v => (natOf v).bind fun l => cond (Nat.ble l h) (some (l, h, some m)) none
           | none => some (0, h, some m)) none
       | none => none) none
  | none => (highA len cap hi).bind fun h => match lo with
      | some v => (natOf v).bind fun l => cond (Nat.ble l h) (some (l, h, cap)) none
      | none => some (0, h, cap)

def isSub : Option Nat → Nat → Option Nat
  | some c, l => some (c - l)
  | none, _ => none

def sliceA (P : Program) (h : H) (t : TypeId) (x : AV) (lo hi mx : Option AV) : Option AV :=
  match P.underlying t, x with
  | some (.array n e), .ptr (some (id, off)) =>
    (sizeA P e).bind fun s => (boundsA n (some n) lo hi mx).bind fun (l, hh, m) => match m with
      | some m => match h.objs.get id with
        | some (.cells cs _) => cond (Nat.ble (off + n * s) cs.length) (some (.slice (some (id, off + l * s)) (hh - l) s (some (m - l)))) none
        | _ => none
      | none => none
  | some .string, .str s => match mx with
    | some _ => none
    | none => (boundsA s.length (some s.length) lo hi none).map fun (l, hh, _) => .str ((s.drop l).take (hh - l))
  | some (.slice e), .slice o len es cap =>
    (sizeA P e).bind fun s => (boundsA len cap lo hi mx).bind fun (l, hh, m) => match o with
      | none => some (.slice none 0 0 (some 0))
      | some (id, off) => cond (Nat.beq s es) (some (.slice (some (id, off + l * s)) (hh - l) s (isSub m l))) none
  | _, _ => none

def makeSliceA (P : Program) (t : TypeId) (l c : AV) : Option (Nat × Nat × Nat × List AV) :=
  match P.underlying t with
  | some (.slice e) => (natOf l).bind fun l => (natOf c).bind fun c => (P.info? e).bind fun i => (zeroA P e).bind fun z =>
      cond (Nat.ble l c && (Nat.ble c 1000000 && (Nat.ble i.bytes 10000 && (Nat.beq z.cells.length i.size && !(Nat.beq i.size 0)))))
        (some (l, i.size, c, rep z.cells c)) none
  | _ => none

def indexAddrA (P : Program) (t : TypeId) (x i : AV) : Option AV :=
  (natOf i).bind fun i => match P.underlying t, x with
    | some (.array n e), .ptr (some (id, off)) => (sizeA P e).bind fun s => cond (Nat.blt i n) (some (.ptr (some (id, off + i * s)))) none
    | some (.slice e), .slice (some (id, off)) len es _ => (sizeA P e).bind fun s => cond (Nat.blt i len && Nat.beq s es) (some (.ptr (some (id, off + i * s)))) none
    | _, _ => none

def indexA (P : Program) (t : TypeId) (x i : AV) : Option AV :=
  (natOf i).bind fun i => match P.underlying t, x with
    | some (.array n e), .agg cs => (sizeA P e).bind fun s => cond (Nat.blt i n) (partA P e cs (i * s)) none
    | some .string, .str s => (s[i]?).map fun b => .int .u8 (Int.ofNat b)
    | _, _ => none

def fieldAddrA (P : Program) (s : TypeId) (x : AV) (f : Nat) : Option AV :=
  match P.underlying s, x with
  | some (.struct fs), .ptr (some (id, off)) => (fs[f]?).bind fun fd => (sizeA P fd.type).bind fun n => cond (Nat.beq n 0) none (some (.ptr (some (id, off + fd.offset))))
  | _, _ => none

def fieldA (P : Program) (s : TypeId) (x : AV) (f : Nat) : Option AV :=
  match P.underlying s, x with
  | some (.struct fs), .agg cs => (fs[f]?).bind fun fd => partA P fd.type cs fd.offset
  | _, _ => none

/-! ### Maps -/

def ckFields (P : Program) (ck : TypeId → AV → Bool) : List Field → List AV → Bool
  | [], _ => true
  | f :: fs, xs => !(f.name == "_") && ((match partA P f.type xs f.offset with | some a => ck f.type a | none => false) && ckFields P ck fs xs)

def ckElems (P : Program) (ck : AV → Bool) (e s : Nat) (xs : List AV) : Nat → Nat → Bool
  | 0, _ => true
  | m + 1, i => (match partA P e xs (i * s) with | some a => ck a | none => false) && ckElems P ck e s xs m (i + 1)

/-- A key that is plain to the bottom. -/
def ckA (P : Program) : Nat → TypeId → AV → Bool
  | 0, _, _ => false
  | d + 1, t, x => match P.underlying t, x with
    | some .bool, .bool _ | some (.int _), .int _ _ | some .string, .str _ => true
    | some (.struct fs), .agg xs => ckFields P (ckA P d) fs.toList xs
    | some (.array n e), .agg xs => match sizeA P e with
      | some s => ckElems P (ckA P d e) e s xs n 0
      | none => false
    | _, _ => false

def keyA (P : Program) (t : TypeId) (k : AV) : Bool := ckA P 4 t k

def findA (P : Program) (kt : TypeId) (k : AV) : List (AV × AV × Nat) → Nat → Option (Option Nat)
  | [], _ => some none
  | e :: es, i => match eqA P 4 kt k e.1 with
    | some true => some (some i)
    | some false => findA P kt k es (i + 1)
    | none => none

def H.mapOf (h : H) (id : Nat) : Option (List (AV × AV × Nat) × Nat) := match h.objs.get id with
  | some (.map es c) => some (es, c)
  | _ => none

def H.set (h : H) (id : Nat) (o : AO) : H := { h with objs := h.objs.put id (some o), low := minN h.low id }

def mapTypeA (P : Program) (t : TypeId) : Option (TypeId × TypeId) := match P.underlying t with
  | some (.map k e) => some (k, e)
  | _ => none

def setAt (x : AV × AV × Nat) : List (AV × AV × Nat) → Nat → List (AV × AV × Nat)
  | [], _ => []
  | _ :: es, 0 => x :: es
  | e :: es, i + 1 => e :: setAt x es i

def lookupA (P : Program) (h : H) (t : TypeId) (x k : AV) (ok : Bool) : Option AV :=
  (mapTypeA P t).bind fun (kt, et) => cond (keyA P kt k)
    (let es : Option (List (AV × AV × Nat)) := match x with
       | .map none => some []
       | .map (some id) => (h.mapOf id).map (·.1)
       | _ => none
     es.bind fun es => (findA P kt k es 0).bind fun r =>
       let v : Option (AV × Bool) := match r with
         | some i => (es[i]?).map fun e => (e.2.1, true)
         | none => (zeroA P et).map fun z => (z, false)
       v.map fun (v, b) => cond ok (.tup [v, .bool b]) v) none

def mapUpdateA (P : Program) (h : H) (t : TypeId) (x k v : AV) : Option H :=
  (mapTypeA P t).bind fun (kt, _) => cond (keyA P kt k)
    (match x with
     | .map (some id) => (h.mapOf id).bind fun (es, c) => (findA P kt k es 0).bind fun r => match r with
        | some i => (es[i]?).bind fun e => cond (stays k e.1) (some (h.set id (.map (setAt (k, v, e.2.2) es i) c))) none
        | none => some (h.set id (.map (es ++ [(k, v, c)]) (c + 1)))
     | _ => none) none

def mapEntryA (P : Program) (h : H) (t : TypeId) (x k : AV) : Option (AV × H) :=
  (mapTypeA P t).bind fun (kt, et) => cond (keyA P kt k)
    (match x with
     | .map (some id) => (h.mapOf id).bind fun (es, c) => (findA P kt k es 0).bind fun r => match r with
        | some i => (es[i]?).bind fun e => cond (stays k e.1) (some (.tup [e.2.1, .int .i64 (Int.ofNat e.2.2)], h.set id (.map (setAt (k, e.2.1, e.2.2) es i) c))) none
        | none => (zeroA P et).map fun z => (.tup [z, .int .i64 (Int.ofNat c)], h.set id (.map (es ++ [(k, z, c)]) (c + 1)))
     | _ => none) none

def bornAt (b : Nat) : List (AV × AV × Nat) → Nat → Option Nat
  | [], _ => none
  | e :: es, i => cond (Nat.beq e.2.2 b) (some i) (bornAt b es (i + 1))

def entryStoreA (h : H) (x stamp v : AV) : Option H := match x with
  | .map (some id) => (h.mapOf id).bind fun (es, c) => (natOf stamp).bind fun b => (bornAt b es 0).bind fun i => (es[i]?).map fun e => h.set id (.map (setAt (e.1, v, e.2.2) es i) c)
  | _ => none

def rangeA (P : Program) (h : H) (t : TypeId) (x : AV) : Option (AV × H) := match P.underlying t, x with
  | some .string, .str s => let (id, h) := h.newObj (.siter s 0); some (.ptr (some (id, 0)), h)
  | some (.map _ _), .map none => let (id, h) := h.newObj (.miter none 0 [] 0); some (.ptr (some (id, 0)), h)
  | some (.map _ _), .map (some m) => (h.mapOf m).map fun (_, c) => let (id, h) := h.newObj (.miter (some m) c [] c); (.ptr (some (id, 0)), h)
  | _, _ => none

def seenIn (b : Nat) : List Nat → Bool
  | [] => false
  | x :: xs => Nat.beq x b || seenIn b xs

/-- What one step over a map may yield. -/
def candsA (h : H) (id m since : Nat) (seen : List Nat) (clock : Nat) (old new : List (AV × AV × Nat)) : List (AV × H) :=
  (cond old.isEmpty [(.tup [.bool false], h)] []) ++ (old ++ new).map fun e => (.tup [.bool true, e.1, e.2.1], h.set id (.miter (some m) since (seen ++ [e.2.2]) clock))

def nextA (h : H) (x : AV) (isString : Bool) : R (AV × H) := match x with
  | .ptr (some (id, 0)) => match h.objs.get id, isString with
    | some (.miter none _ _ _), false => one (.tup [.bool false], h)
    | some (.miter (some m) since seen last), false => (h.mapOf m).bind fun (es, clock) =>
      cond (!seen.isEmpty && (!es.isEmpty && es.all (fun e => Nat.ble last e.2.2))) none
        (some (candsA h id m since seen clock ((es.filter fun e => !(seenIn e.2.2 seen)).filter fun e => Nat.blt e.2.2 since) ((es.filter fun e => !(seenIn e.2.2 seen)).filter fun e => !(Nat.blt e.2.2 since))))
    | _, _ => none
  | _ => none

def entryA (h : H) (x : AV) : Option AV := match x with
  | .ptr (some (id, 0)) => match h.objs.get id with
    | some (.miter (some m) _ seen stepped) => match seen.getLast? with
      | some stamp => (h.mapOf m).bind fun (es, c) => cond (Nat.beq c stepped)
          ((bornAt stamp es 0).bind fun i => (es[i]?).map fun e => .tup [e.1, e.2.1]) none
      | none => none
    | _ => none
  | _ => none

/-! ### Builtins -/

def sliceCells (h : H) (o : Option (Nat × Nat)) (n es : Nat) : Option (List AV) := match o with
  | none => cond (Nat.beq n 0) (some []) none
  | some (id, off) => cond (Nat.beq n 0) (some []) (h.chunk id off (n * es))

/-- What is appended: how many elements, their cells. -/
def appendedA (P : Program) (h : H) (e s : Nat) (xt : TypeId) (x : AV) : Option (Nat × List AV) :=
  match P.underlying xt with
  | some (.int _) => (natOf x).bind fun n => (zeroA P e).bind fun z => cond (Nat.ble n 1000000 && Nat.beq z.cells.length s) (some (n, rep z.cells n)) none
  | some _ => match x with
    | .slice o n es _ => cond (Nat.beq es s || Nat.beq n 0) ((sliceCells h o n s).map fun cs => (n, cs)) none
    | _ => none
  | none => none

def appendA (P : Program) (h : H) (st xt : TypeId) (x y : AV) : Option (AV × H) :=
  match P.underlying st, x with
  | some (.slice e), .slice o len es cap => (P.info? e).bind fun i => (zeroA P e).bind fun z =>
    cond (Nat.beq z.cells.length i.size && (!(Nat.beq i.size 0) && (Nat.ble len 1000000 && Nat.ble i.bytes 10000)))
     ((appendedA P h e i.size xt y).bind fun (n, cs) =>
      cond (Nat.beq n 0) (some (x, h))
        (cond (Nat.ble n 1000000)
          (match o with
           | none =>
             let (id, h) := h.newCells cs
             some (.slice (some (id, 0)) n i.size none, h)
           | some (id, off) => cond (Nat.beq es i.size)
              (match cap with
               | some c => cond (Nat.ble (len + n) c)
                  ((h.store id (off + len * es) cs).map fun h => (.slice o (len + n) es cap, h))
                  ((sliceCells h o len es).map fun old =>
                    let (id, h) := h.newCells (old ++ cs)
                    (.slice (some (id, 0)) (len + n) es none, h))
               | none => match h.objs.get id with
                  | some (.cells bs fam) => cond (Nat.ble (off + len * es) bs.length)
                      (cond (cs.all oneC) (some (.slice (some ((h.alone id fam).next, 0)) (len + n) es none,
                         h.forked id fam (bs.take (off + len * es)) ((bs.drop off).take (len * es) ++ cs))) none) none
                  | _ => none) none) none)) none
  | _, _ => none

def copyA (P : Program) (h : H) (dt : TypeId) (x y : AV) : Option (AV × H) := match P.underlying dt, x, y with
  | some (.slice e), .slice o dl des _, .slice o' sl ses _ => (sizeA P e).bind fun s =>
    let n := Nat.min sl dl
    cond (Nat.beq n 0) (some (.int .i64 0, h))
      (cond (Nat.beq des s && Nat.beq ses s)
        ((sliceCells h o' n s).bind fun cs => match o with
          | some (id, off) => (h.store id off cs).map fun h => (.int .i64 (Int.ofNat n), h)
          | none => none) none)
  | _, _, _ => none

def lenA (P : Program) (h : H) (t : TypeId) (x : AV) : Option AV :=
  ((match P.underlying t, x with
   | some .string, .str s => some s.length
   | some (.array n _), _ => some n
   | some (.slice _), .slice _ n _ _ => some n
   | some (.map _ _), .map none => some 0
   | some (.map _ _), .map (some id) => (h.mapOf id).map fun m => m.1.length
   | _, _ => none) : Option Nat).map fun n => .int .i64 (Int.ofNat n)

def minA (isMax : Bool) (x y : AV) : Option AV := match x, y with
  | .int k a, .int _ b => some (.int k (cond isMax (cond (leI b a) a b) (cond (leI a b) a b)))
  | .str a, .str b => some (.str (cond isMax (cond (ltL a b) b a) (cond (ltL a b || eqL a b) a b)))
  | _, _ => none

def foldMin (isMax : Bool) : AV → List AV → Option AV
  | x, [] => some x
  | x, y :: l => (minA isMax x y).bind fun z => foldMin isMax z l

def deleteA (P : Program) (h : H) (t : TypeId) (x k : AV) : Option (AV × H) :=
  (mapTypeA P t).bind fun (kt, _) => cond (keyA P kt k)
    (match x with
     | .map none => some (.tup [], h)
     | .map (some id) => (h.mapOf id).bind fun (es, c) => (findA P kt k es 0).map fun r => match r with
        | some i => (.tup [], h.set id (.map (es.eraseIdx i) c))
        | none => (.tup [], h)
     | _ => none) none

def clearA (P : Program) (h : H) (t : TypeId) (x : AV) : Option (AV × H) := match P.underlying t, x with
  | some (.slice _), .slice none _ _ _ => some (.tup [], h)
  | some (.slice e), .slice (some (id, off)) n es _ => (sizeA P e).bind fun s => (zeroA P e).bind fun z =>
      cond (Nat.beq n 0) (some (.tup [], h)) (cond (Nat.beq s es && Nat.beq z.cells.length s) ((h.store id off (rep z.cells n)).map fun h => (.tup [], h)) none)
  | _, _ => none

def builtinA (P : Program) (h : H) (b : Builtin) (ats : List TypeId) (xs : List AV) : Option (AV × H) := match b, ats, xs with
  | .append, st :: xt :: _, [x, y] => appendA P h st xt x y
  | .len, t :: _, x :: _ => (lenA P h t x).map fun v => (v, h)
  | .cap, t :: _, [.slice _ _ _ (some c)] => match P.underlying t with
    | some (.slice _) => some (.int .i64 (Int.ofNat c), h)
    | _ => none
  | .copy, dt :: _, x :: y :: _ => copyA P h dt x y
  | .min, _, x :: l => (foldMin false x l).map fun v => (v, h)
  | .max, _, x :: l => (foldMin true x l).map fun v => (v, h)
  | .delete, t :: _, x :: k :: _ => deleteA P h t x k
  | .clear, t :: _, x :: _ => clearA P h t x
  | _, _, _ => none

/-! ### Methods called through an interface value: a method with a value receiver, not promoted -/

def methodA (P : Program) (t : TypeId) (name : String) : Option FuncId := (P.info? t).bind fun i =>
  (i.methods.find? (·.name == name)).bind fun m => match m.path.isEmpty, m.func with
    | true, some (f, false) => match P.underlying t with
      | some (.struct _) | some (.int _) | some .string | some (.slice _) => some f
      | _ => none
    | _, _ => none

def nilCheckA (P : Program) (x : AV) : Option AV := match x with
  | .ptr (some _) => some x
  | .fn (.func _) _ _ => some x
  | .fn (.method name) [.iface t _] _ => (methodA P t name).map fun _ => x
  | .slice .. => some x
  | _ => none

/-! ### Operations that lay one new object, whose number is given -/

def allocA (P : Program) (t : Tr AV) (o : Op) (id : Nat) : Option (AV × AO) := match o with
  | .alloc e => (zeroA P e).map fun z => (.ptr (some (id, 0)), .cells z.cells id)
  | .box _ x => (ev t x).map fun x => (.ptr (some (id, 0)), .cells x.cells id)
  | .buildSlice tt n ps => (partsA t ps.toList).bind fun ps => (buildSliceA P tt n ps).map fun (s, cs) => (.slice (some (id, 0)) n s (some n), .cells cs id)
  | .makeMap tt r => match r with
    | none => some (.map (some id), .map [] 0)
    | some x => match ev t x, mapTypeA P tt with
      | some (.int _ _), some _ => some (.map (some id), .map [] 0)
      | _, _ => none
  | .makeSlice tt l c => (ev t l).bind fun l => (ev t c).bind fun c => (makeSliceA P tt l c).map fun (l, s, c, cs) => (.slice (some (id, 0)) l s (some c), .cells cs id)
  | _ => none

def isAlloc : Op → Bool
  | .alloc _ | .box _ _ | .buildSlice _ _ _ | .makeMap _ _ | .makeSlice _ _ _ => true
  | _ => false

/-- A new object at a number. -/
def H.lay (h : H) (id : Nat) (o : AO) : H := match o with
  | .cells _ _ => { h with objs := h.objs.put id (some o), fams := h.fams.put id (some (id, id)) }
  | _ => { h with objs := h.objs.put id (some o) }

/-! ### One operation that calls nothing. 'none' in the pair: it yields nothing. -/

def opA (P : Program) (t : Tr AV) (h : H) (o : Op) : R (Option AV × H) :=
  let v (r : Option AV) : R (Option AV × H) := r.map fun x => [(some x, h)]
  let vh (r : Option (AV × H)) : R (Option AV × H) := r.map fun x => [(some x.1, x.2)]
  let u (r : Option H) : R (Option AV × H) := r.map fun x => [(none, x)]
  match o with
  | .move x | .assign x => v (ev t x)
  | .pick c a b => (ev t a).bind fun a => (ev t b).bind fun b => match ev t c with
    | some (.bool true) => v (some a)
    | some (.bool false) => v (some b)
    | _ => none
  | .alloc _ | .box _ _ | .buildSlice _ _ _ | .makeMap _ _ | .makeSlice _ _ _ =>
    vh ((allocA P t o h.next).map fun (v, ob) => (v, { h.lay h.next ob with next := h.next + 1 }))
  | .build tt ps => v ((partsA t ps.toList).bind fun ps => buildA P tt ps)
  | .load tt a => match ev t a with
    | some (.ptr (some (id, off))) => v (h.load P tt id off)
    | _ => none
  | .store tt a x => match ev t a, ev t x with
    | some (.ptr (some (id, off))), some x => u (h.storeVar P tt id off x)
    | _, _ => none
  | .nilCheck x => v ((ev t x).bind (nilCheckA P))
  | .binOp op xt x y _ => v ((ev t x).bind fun x => (ev t y).bind fun y => binA P op xt x y)
  | .unOp op _ x => v ((ev t x).bind (unA op))
  | .convert s d x => v ((ev t x).bind (convA P s d))
  | .makeInterface xt x => match P.underlying xt with
    | some (.interface _) => none
    | some _ => v ((ev t x).map fun x => .iface xt x)
    | none => none
  | .makeFunc f first cap => match f with
    | .yield _ => none
    | f => v ((evs t first.toList).bind fun a => (evs t cap.toList).map fun b => .fn f a b)
  | .slice tt x lo hi mx => v ((ev t x).bind fun x => (evo t lo).bind fun lo => (evo t hi).bind fun hi => (evo t mx).bind fun mx => sliceA P h tt x lo hi mx)
  | .fieldAddr s x f => v ((ev t x).bind fun x => fieldAddrA P s x f)
  | .field s x f => v ((ev t x).bind fun x => fieldA P s x f)
  | .indexAddr tt x i => v ((ev t x).bind fun x => (ev t i).bind fun i => indexAddrA P tt x i)
  | .index tt x i => v ((ev t x).bind fun x => (ev t i).bind fun i => indexA P tt x i)
  | .lookup tt x k ok => v ((ev t x).bind fun x => (ev t k).bind fun k => lookupA P h tt x k ok)
  | .mapUpdate tt m k x | .insert tt m k x => u ((ev t m).bind fun m => (ev t k).bind fun k => (ev t x).bind fun x => mapUpdateA P h tt m k x)
  | .mapEntry tt m k => vh ((ev t m).bind fun m => (ev t k).bind fun k => mapEntryA P h tt m k)
  | .entryStore _ m s x => u ((ev t m).bind fun m => (ev t s).bind fun s => (ev t x).bind fun x => entryStoreA h m s x)
  | .range tt x => vh ((ev t x).bind fun x => rangeA P h tt x)
  | .next it isS => match ev t it with
    | some it => (nextA h it isS).map fun l => l.map fun x => (some x.1, x.2)
    | none => none
  | .entry it => v ((ev t it).bind fun it => entryA h it)
  | .extract x i => match ev t x with
    | some (.tup vs) => v vs[i]?
    | _ => none
  | .typeAssert x _ asserted ok => match P.underlying asserted with
    | some (.interface _) => none
    | some _ => match ev t x with
      | some (.iface d y) => cond (Nat.beq d asserted) (v (some (cond ok (.tup [y, .bool true]) y))) none
      | _ => none
    | none => none
  | .call { callee := .builtin b, args, argTypes } => vh ((evs t args.toList).bind fun xs => builtinA P h b argTypes.toList xs)
  | _ => none

end
end Go.Ev

/- Deep values: what a value reads as, with all that it leads to. No conditions: these are definitions. -/
namespace Go.Ev
noncomputable section

/-- A deep value: a flat one; a slice of n elements of e cells (nl: it is nil); an aggregate. -/
inductive DV where
  | fl (a : AV)
  | sl (nl : Bool) (n e : Nat) (cs : List DV)
  | ag (cs : List DV)
  deriving Inhabited

def eqFlat : AV → AV → Bool
  | .bool a, .bool b => Bool.rec (Bool.rec true false b) b a
  | .int k a, .int k' b => kEq k k' && eqI a b
  | .str a, .str b => eqL a b
  | _, _ => false

mutual
def DV.eq : DV → DV → Bool
  | .fl a, .fl b => eqFlat a b
  | .sl x n e cs, .sl y m g ds => (Bool.rec (Bool.rec true false y) y x) && (Nat.beq n m && (Nat.beq e g && DV.eqL cs ds))
  | .ag cs, .ag ds => DV.eqL cs ds
  | _, _ => false
def DV.eqL : List DV → List DV → Bool
  | [], [] => true
  | a :: as, b :: bs => DV.eq a b && DV.eqL as bs
  | _, _ => false
end

/-- The row of an object. -/
def rowAt (h : H) (id : Nat) : Option (List AV) := match h.objs.get id with
  | some (.cells cs _) => some cs
  | some (.ro cs) => some cs
  | _ => none

/-- What a value reads as. A slice of no elements is read only if it is nil. -/
def readD (h : H) : Nat → AV → Option DV
  | 0, _ => none
  | k + 1, a => match a with
    | .slice none 0 e (some 0) => some (.sl true 0 e [])
    | .slice (some (id, off)) n e _ => cond (Nat.beq n 0 || Nat.ble h.next id) none
      ((rowAt h id).bind fun row => cond (Nat.ble (off + n * e) row.length) ((((row.drop off).take (n * e)).mapM (readD h k)).map fun cs => .sl false n e cs) none)
    | .agg as => (as.mapM (readD h k)).map .ag
    | a => cond (flatA a) (some (.fl a)) none

mutual
/-- A deep value laid anew, its rows from number k on. -/
def canon : DV → Nat → AV × List (Option (List AV))
  | .fl a, _ => (a, [])
  | .sl nl n e cs, k => match nl with
    | true => (.slice none 0 e (some 0), [])
    | false => (.slice (some (k, 0)) n e none, (match n with | 0 => none | _ => some (canonL cs (k + 1)).1) :: (canonL cs (k + 1)).2)
  | .ag cs, k => (.agg (canonL cs k).1, (canonL cs k).2)
def canonL : List DV → Nat → List AV × List (Option (List AV))
  | [], _ => ([], [])
  | d :: ds, k => ((canon d k).1 :: (canonL ds (k + (canon d k).2.length)).1, (canon d k).2 ++ (canonL ds (k + (canon d k).2.length)).2)
end

/-- What a table holds at given arguments. -/
def findT : List (List DV × AV) → List DV → Option AV
  | [], _ => none
  | (ds, v) :: l, es => cond (DV.eqL ds es) (some v) (findT l es)

end
end Go.Ev

/- The evaluator's control: regions, loops, calls, rounds. No conditions: these are definitions. -/
namespace Go.Ev
noncomputable section

inductive Ex where
  | normal | ret
  | exit (id : Nat)
  | goto (l : Nat)
  deriving Inhabited

abbrev CV := Fn → List AV → H → R (AV × H)

def St.put (st : St) (dst : Option Tmp) (v : AV) : Option St := match dst with
  | none => some st
  | some d => match st with
    | ⟨t, n, h, ds⟩ => cond (Nat.blt d n) (some ⟨t.put d (some v), n, h, ds⟩) none

/-- The state with another heap. -/
def St.setH (st : St) (h : H) : St := match st with
  | ⟨t, n, _, ds⟩ => ⟨t, n, h, ds⟩

/-- Is a guarded operation wanted? none: not served. -/
def wantedA (ops : List Oper) (t : Tr AV) (n : Nat) (o : Oper) : Option Bool := match o.guard with
  | none => some true
  | some (j, want) => match (ops[j]?).bind (·.dst) with
    | some d => cond (Nat.blt d n) (match t.get d with
      | some (.bool b) => some (b == want)
      | some (.tup []) | none => some false
      | _ => none) none
    | none => none

def callOf (P : Program) (t : Tr AV) (c : Call) : Option (Fn × List AV × List AV) := match c.callee with
  | .value f => match ev t f with
    | some (.fn fn first cap) => (evs t c.args.toList).map fun xs => (fn, first ++ xs, cap)
    | _ => none
  | .invoke r name => match ev t r with
    | some (.iface tt v) => (methodA P tt name).bind fun f => (evs t c.args.toList).map fun xs => (.func f, v :: xs, [])
    | _ => none
  | .builtin _ => none

def isDyn : Op → Bool
  | .call { callee := .builtin _, .. } => false
  | .call _ => true
  | _ => false

/-- One operation. -/
def oneA (P : Program) (cv : CV) (ro : Option Nat) (o : Oper) (st : St) : R St :=
  match o.op with
  | .defer c => match ro with
    | some _ => none
    | none => match c.callee with
      | .value g => match ev st.t g with
        | some (.fn (.func f) first cap) => match evs st.t c.args.toList with
          | some xs => (({ st with ds := { fn := some (.func f), blk := 0, args := first ++ xs, cap } :: st.ds } : St).put o.dst und).map fun s => [s]
          | none => none
        | _ => none
      | _ => none
  | op => cond (isDyn op)
      (match op with
       | .call c => match callOf P st.t c with
         | some (fn, xs, cap) => bindR (cv fn (xs ++ cap) st.h) fun (v, h) => ((st.setH h).put o.dst v).map fun s => [s]
         | none => none
       | _ => none)
      (bindR (opA P st.t st.h op) fun (v, h) => ((st.setH h).put o.dst (match v with | some v => v | none => und)).map fun s => [s])

def opsA (P : Program) (cv : CV) (ro : Option Nat) (all : List Oper) : List Oper → St → R St
  | [], st => one st
  | o :: rest, st => match wantedA all st.t st.n o with
    | some true => bindR (oneA P cv ro o st) (opsA P cv ro all rest)
    | some false => match st.put o.dst und with
      | some st => opsA P cv ro all rest st
      | none => none
    | none => none

/-! ### A region that draws its order -/

def isEff : Op → Bool
  | .store .. | .entryStore .. | .mapUpdate .. | .insert .. | .mapEntry .. | .next .. | .defer _ | .range .. => true
  | .call { callee := .builtin b, .. } => match b with | .len | .cap | .min | .max => false | _ => true
  | .call _ => true
  | _ => false

def bit (i : Nat) : Nat := 2 ^ i
def hasBit (m i : Nat) : Bool := Nat.testBit m i

/-- All operations that stand before each, by the edges that always bind. -/
def masks : List Oper → List Nat → List Nat
  | [], acc => acc
  | o :: rest, acc => masks rest (acc ++ [o.after.toList.foldl (fun m e => cond (Region.binds .any e) (Nat.lor m (Nat.lor (bit e.on) (acc.getD e.on 0))) m) 0])

def tmpsOf (o : Oper) : List Tmp := o.op.operands.toList.filterMap fun | .tmp t => some t | _ => none

/-- The temporaries that an operation looks at: its operands, and where its guard's answer lies. -/
def looksA (ops : List Oper) (o : Oper) : List Tmp := tmpsOf o ++ (match o.guard with
  | some (j, _) => match (ops[j]?).bind (·.dst) with
    | some d => [d]
    | none => []
  | none => [])

def restr (t : Tr AV) : List Tmp → Tr AV
  | [] => .nil
  | k :: l => (restr t l).put k (t.get k)

/-- Pairwise: i stands ahead of j in the text. -/
def pairOk (ops : List Oper) (i : Nat) (a : Oper) (mj : Nat) (b : Oper) : Bool :=
  hasBit mj i ||
  ((match a.dst, b.dst with | some d, some d' => !(Nat.beq d d') | _, _ => true) &&
   ((match a.dst with | some d => !(looksA ops b).any (Nat.beq d) | none => true) &&
   ((match b.dst with | some d => !(looksA ops a).any (Nat.beq d) | none => true) &&
   !(isEff a.op && isEff b.op))))

def allPairs (all : List Oper) (ms : List Nat) (ops : List (Nat × Oper)) : Bool := match ops with
  | [] => true
  | (i, a) :: rest => rest.all (fun (j, b) => pairOk all i a (ms.getD j 0) b) && allPairs all ms rest

def numbered {α : Type} : Nat → List α → List (Nat × α)
  | _, [] => []
  | i, x :: xs => (i, x) :: numbered (i + 1) xs

def opOk (i : Nat) (o : Oper) : Bool :=
  (o.after.toList.all fun e => !(Region.binds .any e) || Nat.blt e.on i) &&
  (match o.guard, o.op with | _, .defer _ => false | some (j, _), _ => o.after.toList.any (fun e => Nat.beq e.on j && Region.binds .any e) | none, _ => true)

def drawOk (ops : List Oper) : Bool :=
  let ms := masks ops []
  (numbered 0 ops).all (fun (i, o) => opOk i o) && allPairs ops ms (numbered 0 ops)

/-- The heap with the new objects of the operations in a mask. -/
def addX (base : Nat) (m : Nat) : List (Nat × AO) → H → H
  | [], h => h
  | (i, o) :: xs, h => addX base m xs (cond (hasBit m i) (h.lay (base + i) o) h)

structure Dr where
  t : Tr AV
  c : H
  xs : List (Nat × AO)
  all : List (Nat × AO)
  m : Nat
  cs : List (Nat × Nat × H)
  reads : List (Nat × Tr AV × Op × AV)
  deriving Inhabited

def Dr.setD (d : Dr) (n : Nat) (dst : Option Tmp) (v : AV) : Option Dr := match dst with
  | none => some d
  | some k => cond (Nat.blt k n) (some { d with t := d.t.put k (some v) }) none

def drawStep (P : Program) (cv : CV) (ro : Option Nat) (base : Nat) (all : List Oper) (ms : List Nat) (n : Nat) (i : Nat) (o : Oper) (d : Dr) : Option Dr :=
  let r := restr d.t (looksA all o)
  match wantedA all r n o with
  | none => none
  | some false => d.setD n o.dst und
  | some true =>
    cond (isEff o.op)
      (match oneA P cv ro o { t := r, n, h := addX base (ms.getD i 0) d.xs d.c, ds := [] } with
       | some [st] => (d.setD n o.dst (match o.dst with | some k => (st.t.get k).getD und | none => und)).map fun d =>
          { d with c := st.h, xs := d.xs.filter (fun x => !(hasBit (ms.getD i 0) x.1)), m := Nat.lor d.m (ms.getD i 0), cs := d.cs ++ [(i, Nat.lor d.m (ms.getD i 0), st.h)] }
       | _ => none)
      (cond (isAlloc o.op)
        (match allocA P r o.op (base + i) with
         | some (v, ob) => (d.setD n o.dst v).map fun d => { d with xs := d.xs ++ [(i, ob)], all := d.all ++ [(i, ob)] }
         | none => none)
        (match opA P r (addX base (ms.getD i 0) d.xs d.c) o.op with
         | some [(some v, _)] => (d.setD n o.dst v).map fun d => { d with reads := d.reads ++ [(i, r, o.op, v)] }
         | _ => none))

/-- A region in any order: run in the order of the text. -/
def drawRun (P : Program) (cv : CV) (ro : Option Nat) (base : Nat) (all : List Oper) (ms : List Nat) (n : Nat) : List (Nat × Oper) → Dr → Option Dr
  | [], d => some d
  | (i, o) :: rest, d => match drawStep P cv ro base all ms n i o d with
    | some d => drawRun P cv ro base all ms n rest d
    | none => none

/-- May operation i run in this phase? done: the effects that have run; left: those that have not. -/
def mayRun (ms : List Nat) (i : Nat) (done left : List Nat) : Bool :=
  done.all (fun e => !(hasBit (ms.getD e 0) i)) && left.all (fun e => !(hasBit (ms.getD i 0) e))

/-- A read yields what it yielded in whatever phase it may run. -/
def readOk (P : Program) (base : Nat) (ms : List Nat) (all : List (Nat × AO)) (i : Nat) (t : Tr AV) (op : Op) (v : AV) : List Nat → Nat → H → List (Nat × Nat × H) → Bool
  | done, m, c, later =>
    (!(mayRun ms i done (later.map (·.1))) ||
      (match opA P t (addX base (ms.getD i 0) (all.filter fun x => !(hasBit m x.1)) c) op with
       | some [(some v', _)] => eqTop 6 v v'
       | _ => false)) &&
    (match later with
     | [] => true
     | (e, m', c') :: later => readOk P base ms all i t op v (e :: done) m' c' later)

def drawA (P : Program) (cv : CV) (ro : Option Nat) (ops : List Oper) (st : St) : Option St :=
  let base := st.h.next
  let h0 : H := { st.h with next := base + ops.length }
  let ms := masks ops []
  cond (drawOk ops && P.follows .mixedOrders)
    (match drawRun P cv ro base ops ms st.n (numbered 0 ops) { t := st.t, c := h0, xs := [], all := [], m := 0, cs := [], reads := [] } with
     | some d => cond (d.reads.all fun (i, t, op, v) => readOk P base ms d.all i t op v [] 0 h0 d.cs)
        (some { t := d.t, n := st.n, h := addX base (2 ^ ops.length - 1) d.xs d.c, ds := st.ds }) none
     | none => none) none

/-! ### Code -/

def H.loopOf (h : H) (id : Nat) : Option (LoopState × Option Code × Tr AV × Nat × Array Tmp × Code × Code × Nat) := match h.objs.get id with
  | some (.loop st p t n ps a b d) => some (st, p, t, n, ps, a, b, d)
  | _ => none

/-- Entering a range over a function: the record; at an outermost loop the block and its mark. -/
def enterA (ro : Option Nat) (ps : Array Tmp) (assign body : Code) (st : St) : Option (Nat × St) := match ro with
  | some l => (st.h.loopOf l).map fun r =>
      let (id, h) := st.h.newObj (.loop .ready none st.t st.n ps assign body r.2.2.2.2.2.2.2)
      (id, { st with h := h })
  | none =>
      let (r, h) := st.h.newObj (.dfr false)
      let (id, h) := h.newObj (.loop .ready none st.t st.n ps assign body r)
      some (id, { st with h := h, ds := { fn := none, blk := r, args := [], cap := [] } :: st.ds })

def evC (P : Program) (cv : CV) (ro : Option Nat) : Nat → Code → St → R (Ex × St)
  | 0, _, _ => none
  | n + 1, c, st => match c with
    | .skip | .label _ => one (.normal, st)
    | .region _ ops false => bindR (opsA P cv ro ops.toList ops.toList st) fun st => one (.normal, st)
    | .region _ ops true => (drawA P cv ro ops.toList st).map fun st => [(.normal, st)]
    | .seq a b => bindR (evC P cv ro n a st) fun (e, st) => match e with
      | .normal => evC P cv ro n b st
      | e => one (e, st)
    | .cond c a b => match ev st.t c with
      | some (.bool true) => evC P cv ro n a st
      | some (.bool false) => evC P cv ro n b st
      | _ => none
    | .block id b => bindR (evC P cv ro n b st) fun (e, st) => match e with
      | .exit id' => cond (Nat.beq id' id) (one (.normal, st)) (one (.exit id', st))
      | e => one (e, st)
    | .loop b => bindR (evC P cv ro n b st) fun (e, st) => match e with
      | .normal => evC P cv ro n (.loop b) st
      | e => one (e, st)
    | .exit id => one (.exit id, st)
    | .goto l => one (.goto l, st)
    | .ret => one (.ret, st)
    | .scope b => bindR (evC P cv ro n b st) fun (e, st) => match e with
      | .goto _ => none
      | e => one (e, st)
    | .rangeFunc g ps assign body => match ev st.t g with
      | some (.fn (.func f) first cap) => match cond ((P.funcs[f]?).bind (·.body)).isSome (enterA ro ps assign body st) none with
        | some (id, st) => bindR (cv (.func f) (first ++ [.fn (.yield id) [] []] ++ cap) st.h) fun (_, h) => match h.loopOf id with
          | some (ls, p, t, m, ps, a, b, d) => match ls with
            | .busy => none
            | _ =>
              let st : St := { st with h := h.set id (.loop .exhausted p t m ps a b d) }
              match p with
              | none => one (.normal, st)
              | some c => evC P cv ro n c st
          | none => none
        | none => none
      | _ => none
    | _ => none

def argsTr : Nat → List AV → Tr AV → Tr AV
  | _, [], t => t
  | i, x :: xs, t => argsTr (i + 1) xs (t.put i (some x))

def resultsA (P : Program) (t : Tr AV) (h : H) (rs : List ResultVar) : Option AV :=
  (rs.mapM fun
    | ResultVar.tmp i => ev t (.tmp i)
    | ResultVar.cell a tt => match ev t (.tmp a) with
      | some (.ptr (some (id, off))) => h.load P tt id off
      | _ => none).map fun vs => match vs with
    | [v] => v
    | vs => .tup vs

/-- The body of a function, run. -/
def bodyA (P : Program) (cv : CV) (fuel : Nat) (fn : Func) (c : Code) (args : List AV) (h : H) : R (Ex × St) :=
  evC P cv none fuel c { t := argsTr 0 args .nil, n := args.length + (fn.ntmps - args.length), h, ds := [] }

def endsOk : Ex → Bool
  | .normal | .ret => true
  | _ => false

/-- The deferred calls of a frame that returns; vs: its temporaries. -/
def leaveA (P : Program) (cv : CV) (fuel : Nat) : List ADf → H → R H
  | [], h => one h
  | d :: ds, h => match d.fn with
    | none => match h.objs.get d.blk with
      | some (.dfr false) => leaveA P cv fuel ds (h.set d.blk (.dfr true))
      | _ => none
    | some (.func f) => match P.funcs[f]? with
      | some fn => match fn.body with
        | some c => bindR (bodyA P cv fuel fn c (d.args ++ d.cap) h) fun (e, st) =>
            cond (endsOk e) (match st.ds, resultsA P st.t st.h fn.results.toList with
              | [], some _ => leaveA P cv fuel ds st.h
              | _, _ => none) none
        | none => none
      | none => none
    | _ => none

/-- Functions that are served whole. -/
inductive XK where
  | indexByte | cmp | clone | name
  | sort1 (ts : List TypeId)
  | const (v : AV)
  | deep (tbl : List (List DV × AV))
  deriving Inhabited

def idxByte (c : Nat) : List Nat → Nat → Int
  | [], _ => -1
  | b :: l, i => cond (Nat.beq b c) (Int.ofNat i) (idxByte c l (i + 1))

def isLetterN (b : Nat) : Bool := (Nat.ble 97 b && Nat.ble b 122) || (Nat.ble 65 b && Nat.ble b 90)
def isMoreN (b : Nat) : Bool := isLetterN b || ((Nat.ble 48 b && Nat.ble b 57) || Nat.beq b 95)
/-- A name: a letter, then letters, digits and underscores; at most 24 bytes. -/
def nameN : List Nat → Bool
  | [] => false
  | b :: l => isLetterN b && (l.all isMoreN && Nat.ble l.length 23)

def xA (k : XK) (args : List AV) (h : H) : Option (AV × H) := match k, args with
  | .indexByte, [.str s, .int .u8 (.ofNat c)] => cond (Nat.blt c 256) (some (.int .i64 (idxByte c s 0), h)) none
  | .cmp, [.str a, .str b] => some (.int .i64 (cond (ltL a b) (-1) (cond (eqL a b) 0 1)), h)
  | .clone, [.iface t (.map (some id))] => (h.mapOf id).map fun (es, c) => (.iface t (.map (some h.next)), { h.lay h.next (.map es c) with next := h.next + 1 })
  | .name, [.str s] => cond (Nat.ble s.length 1000000) (some (.bool (nameN s), h)) none
  | .const v, [] => some (v, h)
  | .deep tbl, args => (args.mapM (readD h 8)).bind fun ds => (findT tbl ds).map fun v => (v, h)
  | .sort1 ts, [.iface t (.slice _ n _ _), .fn _ _ _] => cond (Nat.ble n 1 && ts.any (Nat.beq t)) (some (.tup [], h)) none
  | _, _ => none

abbrev EX := List (FuncId × XK)

def EX.find (ex : EX) (f : FuncId) : Option XK := match ex with
  | [] => none
  | (g, k) :: l => cond (Nat.beq f g) (some k) (EX.find l f)

def setParams : List (Nat × AV) → Nat → Tr AV → Option (Tr AV)
  | [], _, t => some t
  | (k, v) :: l, n, t => cond (Nat.blt k n) (setParams l n (t.put k (some v))) none

/-! ### Several ways that lead to the same -/

def plainA : Nat → AV → Bool
  | 0, _ => false
  | n + 1, v => match v with
    | .bool _ | .int _ _ | .str _ | .ptr none | .slice none _ _ _ | .map none | .nilFn | .nilI => true
    | .agg cs | .tup cs => cs.all (plainA n)
    | .iface _ v => plainA n v
    | _ => false

/-- A value whose slices are all new, each told by its own cells alone: the value with new numbers, the cells. -/
def canonV (h : H) (lo : Nat) : Nat → AV → List Nat → List (List AV) → Option (AV × List Nat × List (List AV))
  | 0, _, _, _ => none
  | n + 1, v, used, acc => match v with
    | .slice (some (id, off)) len es cap => match h.objs.get id with
      | some (.cells cs fam) =>
        cond (Nat.ble lo id && (Nat.ble lo fam && (!(used.any (Nat.beq fam)) && Nat.ble (off + len * es) cs.length)))
          (cond (((cs.drop off).take (len * es)).all (plainA 4)) (some (.slice (some (lo + acc.length, 0)) len es cap, fam :: used, acc ++ [(cs.drop off).take (len * es)])) none) none
      | _ => none
    | .tup vs => (canonVs (fun v u a => canonV h lo n v u a) vs used acc).map fun (vs, u, a) => (.tup vs, u, a)
    | v => cond (plainA 4 v) (some (v, used, acc)) none
where
  canonVs (f : AV → List Nat → List (List AV) → Option (AV × List Nat × List (List AV))) : List AV → List Nat → List (List AV) → Option (List AV × List Nat × List (List AV))
    | [], used, acc => some ([], used, acc)
    | v :: vs, used, acc => match f v used acc with
      | some (v, used, acc) => (canonVs f vs used acc).map fun (vs, u, a) => (v :: vs, u, a)
      | none => none

def layAll : List (List AV) → H → H
  | [], h => h
  | cs :: l, h => layAll l { h.lay h.next (.cells cs h.next) with next := h.next + 1 }

def all2L (eq : AV → AV → Bool) : List (List AV) → List (List AV) → Bool
  | [], [] => true
  | x :: xs, y :: ys => all2 eq x y && all2L eq xs ys
  | _, _ => false

def sameAs (h0 : H) (v : AV) (l : List (List AV)) : List (AV × H) → Bool
  | [] => true
  | (v', h') :: outs => match canonV h' h0.next 3 v' [] [] with
    | some (v'', _, l') => Nat.beq h'.low h0.next && (eqTop 6 v v'' && (all2L (eqTop 6) l l' && sameAs h0 v l outs))
    | none => false

/-- The ways out of a call that was entered with h0, low laid at h0.next. -/
def compact (h0 : H) (outs : List (AV × H)) : List (AV × H) := match outs with
  | [] => []
  | [x] => [(x.1, { x.2 with low := minN h0.low x.2.low })]
  | x :: rest => match canonV x.2 h0.next 3 x.1 [] [] with
    | some (v, _, l) => cond (Nat.beq x.2.low h0.next && sameAs h0 v l rest) [(v, layAll l h0)] (outs.map fun x => (x.1, { x.2 with low := minN h0.low x.2.low }))
    | none => outs.map fun x => (x.1, { x.2 with low := minN h0.low x.2.low })

def evV (P : Program) (ex : EX) (fuel : Nat) : Nat → CV
  | 0, _, _, _ => none
  | d + 1, f, args, h => match f with
    | .func f => match (ex.find f).bind fun k => xA k args h with
     | some r => some [r]
     | none => match P.funcs[f]? with
      | some fn => match fn.body with
        | some c => (bindR (bodyA P (evV P ex fuel d) fuel fn c args { h with low := h.next }) fun (e, st) => cond (endsOk e)
            (bindR (leaveA P (evV P ex fuel d) fuel st.ds st.h) fun h => (resultsA P st.t h fn.results.toList).map fun v => [(v, h)]) none).map (compact h)
        | none => none
      | none => none
    | .yield id => match h.loopOf id with
      | some (.ready, _, t, n, ps, a, b, _) => cond (Nat.beq ps.toList.length args.length)
          (match setParams (ps.toList.zip args) n t with
           | some t1 => bindR (evC P (evV P ex fuel d) (some id) fuel a { t := t1, n, h, ds := [] }) fun (e, st) => match e with
             | .normal => match st.h.loopOf id with
               | some (.ready, p, t, n, ps, a, b', dfr) =>
                 bindR (evC P (evV P ex fuel d) (some id) fuel b { st with h := st.h.set id (.loop .busy p t n ps a b' dfr) }) fun (e, st) =>
                   match st.ds, st.h.loopOf id with
                   | [], some (_, _, t, n, ps, a, b, dfr) =>
                     let fin (s : LoopState) (j : Option Code) (r : Bool) : R (AV × H) := one (.bool r, st.h.set id (.loop s j t n ps a b dfr))
                     match e with
                     | .normal => fin .ready none true
                     | .ret => fin .done (some .ret) false
                     | .exit i => fin .done (some (.exit i)) false
                     | .goto l => fin .done (some (.goto l)) false
                   | _, _ => none
               | _ => none
             | _ => none
           | none => none) none
      | _ => none
    | _ => none

end
end Go.Ev

/- The relation between the evaluator's heap and the model's world; what it gives for reads, writes and new objects. No conditions beyond those that each theorem states. -/
namespace Go.Ev

/-! ### The trie -/

theorem get_nil {α : Type} (k : Nat) : (Tr.nil : Tr α).get k = none := rfl

theorem beqN {a b : Nat} (h : Nat.beq a b = true) : a = b := Nat.eq_of_beq_eq_true h
theorem Nbeq {a b : Nat} (h : a = b) : Nat.beq a b = true := by subst h; simp
theorem bleN {a b : Nat} (h : Nat.ble a b = true) : a ≤ b := Nat.le_of_ble_eq_true h
theorem Nble {a b : Nat} (h : a ≤ b) : Nat.ble a b = true := by simpa using h
theorem bltN {a b : Nat} (h : Nat.blt a b = true) : a < b := Nat.le_of_ble_eq_true h
theorem cond_tt {α : Sort _} (a b : α) : cond true a b = a := rfl
theorem cond_ff {α : Sort _} (a b : α) : cond false a b = b := rfl

theorem brec {α : Type} (b : Bool) (x y : α) : Bool.rec (motive := fun _ => α) y x b = cond b x y := by cases b <;> rfl

theorem get_node {α : Type} (v : Option α) (l r : Tr α) (k : Nat) :
    (Tr.node v l r).get k = if k = 0 then v else if k % 2 = 1 then l.get ((k - 1) / 2) else r.get ((k - 1) / 2) := by
  have e : (Tr.node v l r).get k = cond (Nat.beq k 0) v (cond (Nat.beq (k % 2) 1) (l.get ((k - 1) / 2)) (r.get ((k - 1) / 2))) := by
    rw [← brec, ← brec]; rfl
  rw [e]
  by_cases h0 : k = 0
  · simp [h0]
  · have e0 : Nat.beq k 0 = false := by cases k <;> simp_all [Nat.beq]
    rw [e0, cond_ff, if_neg h0]
    by_cases h1 : k % 2 = 1
    · have e1 : Nat.beq (k % 2) 1 = true := Nbeq h1
      rw [e1, cond_tt, if_pos h1]
    · have e1 : Nat.beq (k % 2) 1 = false := by
        cases hb : Nat.beq (k % 2) 1
        · rfl
        · exact absurd (beqN hb) h1
      rw [e1, cond_ff, if_neg h1]

theorem lone_succ {α : Type} (x : Option α) (f k : Nat) :
    Tr.lone x (f + 1) k = if k = 0 then .node x .nil .nil else if k % 2 = 1 then .node none (Tr.lone x f ((k - 1) / 2)) .nil else .node none .nil (Tr.lone x f ((k - 1) / 2)) := by
  have e : Tr.lone x (f + 1) k = cond (Nat.beq k 0) (.node x .nil .nil) (cond (Nat.beq (k % 2) 1) (.node none (Tr.lone x f ((k - 1) / 2)) .nil) (.node none .nil (Tr.lone x f ((k - 1) / 2)))) := by
    rw [← brec, ← brec]; rfl
  rw [e]
  by_cases h0 : k = 0
  · simp [h0]
  · have e0 : Nat.beq k 0 = false := by cases k <;> simp_all [Nat.beq]
    rw [e0, cond_ff, if_neg h0]
    by_cases h1 : k % 2 = 1
    · have e1 : Nat.beq (k % 2) 1 = true := Nbeq h1
      rw [e1, cond_tt, if_pos h1]
    · have e1 : Nat.beq (k % 2) 1 = false := by
        cases hb : Nat.beq (k % 2) 1
        · rfl
        · exact absurd (beqN hb) h1
      rw [e1, cond_ff, if_neg h1]

theorem put_node {α : Type} (v : Option α) (l r : Tr α) (k : Nat) (x : Option α) :
    (Tr.node v l r).put k x = if k = 0 then .node x l r else if k % 2 = 1 then .node v (l.put ((k - 1) / 2) x) r else .node v l (r.put ((k - 1) / 2) x) := by
  have e : (Tr.node v l r).put k x = cond (Nat.beq k 0) (.node x l r) (cond (Nat.beq (k % 2) 1) (.node v (l.put ((k - 1) / 2) x) r) (.node v l (r.put ((k - 1) / 2) x))) := by
    rw [← brec, ← brec]; rfl
  rw [e]
  by_cases h0 : k = 0
  · simp [h0]
  · have e0 : Nat.beq k 0 = false := by cases k <;> simp_all [Nat.beq]
    rw [e0, cond_ff, if_neg h0]
    by_cases h1 : k % 2 = 1
    · have e1 : Nat.beq (k % 2) 1 = true := Nbeq h1
      rw [e1, cond_tt, if_pos h1]
    · have e1 : Nat.beq (k % 2) 1 = false := by
        cases hb : Nat.beq (k % 2) 1
        · rfl
        · exact absurd (beqN hb) h1
      rw [e1, cond_ff, if_neg h1]

theorem lone_get {α : Type} (x : Option α) : ∀ (f k j : Nat), k < f → (Tr.lone x f k).get j = if j = k then x else none
  | 0, k, j, h => by omega
  | f + 1, k, j, h => by
    rw [lone_succ]
    by_cases h0 : k = 0
    · subst h0
      rw [if_pos rfl, get_node]
      simp only [get_nil]
      by_cases hj : j = 0 <;> simp [hj]
    · rw [if_neg h0]
      by_cases h1 : k % 2 = 1
      · rw [if_pos h1, get_node, lone_get x f _ _ (by omega)]
        simp only [get_nil]
        by_cases hj : j = 0
        · rw [if_pos hj, if_neg (by omega)]
        · rw [if_neg hj]
          by_cases hj1 : j % 2 = 1
          · rw [if_pos hj1]
            by_cases e : j = k
            · subst e; simp
            · rw [if_neg (by omega), if_neg e]
          · rw [if_neg hj1, if_neg (by omega)]
      · rw [if_neg h1, get_node, lone_get x f _ _ (by omega)]
        simp only [get_nil]
        by_cases hj : j = 0
        · rw [if_pos hj, if_neg (by omega)]
        · rw [if_neg hj]
          by_cases hj1 : j % 2 = 1
          · rw [if_pos hj1, if_neg (by omega)]
          · rw [if_neg hj1]
            by_cases e : j = k
            · subst e; simp
            · rw [if_neg (by omega), if_neg e]

theorem put_get {α : Type} (t : Tr α) (k j : Nat) (x : Option α) : (t.put k x).get j = if j = k then x else t.get j := by
  induction t generalizing k j with
  | nil =>
    have e : (Tr.nil : Tr α).put k x = Tr.lone x (k + 1) k := rfl
    rw [e, lone_get x _ _ _ (by omega), get_nil]
  | node v l r il ir =>
    rw [put_node]
    by_cases h0 : k = 0
    · subst h0
      rw [if_pos rfl, get_node, get_node]
      by_cases hj : j = 0 <;> simp [hj]
    · rw [if_neg h0]
      by_cases h1 : k % 2 = 1
      · rw [if_pos h1, get_node, get_node, il]
        by_cases hj : j = 0
        · simp only [hj, if_true]; rw [if_neg (by omega)]
        · simp only [hj, if_false]
          by_cases hj1 : j % 2 = 1
          · simp only [hj1, if_true]
            by_cases e : j = k
            · simp [e]
            · rw [if_neg (by omega), if_neg e]
          · simp only [hj1, if_false]; rw [if_neg (by omega)]
      · rw [if_neg h1, get_node, get_node, ir]
        by_cases hj : j = 0
        · simp only [hj, if_true]; rw [if_neg (by omega)]
        · simp only [hj, if_false]
          by_cases hj1 : j % 2 = 1
          · simp only [hj1, if_true]; rw [if_neg (by omega)]
          · simp only [hj1, if_false]
            by_cases e : j = k
            · simp [e]
            · rw [if_neg (by omega), if_neg e]
theorem put_same {α : Type} (t : Tr α) (k : Nat) (x : Option α) : (t.put k x).get k = x := by rw [put_get, if_pos rfl]
theorem put_other {α : Type} (t : Tr α) {k j : Nat} (x : Option α) (h : j ≠ k) : (t.put k x).get j = t.get j := by rw [put_get, if_neg h]

/-! ### Small words -/

theorem cond_some {α : Type} {c : Bool} {x : Option α} {y : α} (h : cond c x none = some y) : c = true ∧ x = some y := by
  cases c
  · simp at h
  · exact ⟨rfl, h⟩

theorem beqN_ne {a b : Nat} (h : Nat.beq a b = false) : a ≠ b := fun e => by subst e; simp at h
theorem bleN_ne {a b : Nat} (h : Nat.ble a b = false) : b < a := by
  apply Nat.lt_of_not_le; intro e; rw [Nble e] at h; simp at h
theorem bltN_ne {a b : Nat} (h : Nat.blt a b = false) : b ≤ a := by
  have := bleN_ne h; omega

theorem leI_iff (a b : Int) : leI a b = decide (a ≤ b) := by
  unfold leI
  cases h : b - a with
  | ofNat n => have : a ≤ b := by have := Int.natCast_nonneg n; simp only [Int.ofNat_eq_natCast] at h; omega
               simp [this]
  | negSucc n => have : ¬ a ≤ b := by have := Int.negSucc_lt_zero n; omega
                 simp [this]

theorem eqI_iff (a b : Int) : eqI a b = (a == b) := by
  unfold eqI
  rw [leI_iff, leI_iff]
  by_cases h : a = b
  · subst h; simp
  · have : (a == b) = false := by simpa using h
    rw [this]
    by_cases h1 : a ≤ b
    · have : ¬ b ≤ a := by omega
      simp [h1, this]
    · simp [h1]

theorem kEq_iff (a b : IntKind) : kEq a b = true ↔ a = b := by cases a <;> cases b <;> simp [kEq]

theorem wrapA_eq (k : IntKind) (n : Int) : wrapA k n = k.wrap n := by
  unfold wrapA
  cases hc : leI (loK k) n && leI n (hiK k)
  · rfl
  · rw [cond_tt]
    simp only [Bool.and_eq_true, leI_iff, decide_eq_true_eq] at hc
    obtain ⟨h1, h2⟩ := hc
    unfold IntKind.wrap
    cases k <;> simp only [loK, hiK, IntKind.bits, IntKind.signed] at h1 h2 ⊢ <;> simp <;> omega

theorem eqL_iff : ∀ a b : List Nat, eqL a b = decide (a = b)
  | [], [] => by simp [eqL]
  | [], b :: y => by simp [eqL]
  | a :: x, [] => by simp [eqL]
  | a :: x, b :: y => by
    simp only [eqL, eqL_iff x y, List.cons.injEq]
    cases h : Nat.beq a b
    · simp [beqN_ne h]
    · simp [beqN h]

/-! ### Values -/

/-- Where an object lies: its block, the cell of the block at which it begins, how many cells it may have. -/
structure Plc where
  b : Nat
  d : Nat
  r : Nat

abbrev Sg := Nat → Option Plc

inductive V (σ : Sg) : AV → Value → Prop
  | bool (b) : V σ (.bool b) (.bool b)
  | int (k n) : V σ (.int k n) (.int k n)
  | str {l : List Nat} {s : ByteArray} (h : s.data.toList.map (·.toNat) = l) : V σ (.str l) (.string s)
  | ptrN : V σ (.ptr none) (.pointer none)
  | ptr {id off : Nat} {p : Plc} (h : σ id = some p) : V σ (.ptr (some (id, off))) (.pointer (some ⟨p.b, p.d + off, none⟩))
  | sliceN {l e : Nat} (hl : l = 0) : V σ (.slice none l e (some 0)) (.slice none 0 0)
  | slice {id off len es : Nat} {cap : Option Nat} {a : Addr} {p : Plc} {c : Nat} (h : σ id = some p) (hl : len ≤ c) (hr : off + c * es ≤ p.r) (hc : ∀ x, cap = some x → x = c)
      (ha : a = ⟨p.b, p.d + off, none⟩ ∨ c = 0) : V σ (.slice (some (id, off)) len es cap) (.slice (some a) len c)
  | mapN : V σ (.map none) (.map none)
  | map {id : Nat} {p : Plc} (h : σ id = some p) : V σ (.map (some id)) (.map (some p.b))
  | fn {f : Fn} {fs cs : List AV} {fs' cs' : Array Value} (hf : ∀ l, f ≠ .yield l) (h1 : fs.length = fs'.size) (h2 : ∀ (i : Nat) (a : AV) (v : Value), fs[i]? = some a → fs'[i]? = some v → V σ a v)
      (h3 : cs.length = cs'.size) (h4 : ∀ (i : Nat) (a : AV) (v : Value), cs[i]? = some a → cs'[i]? = some v → V σ a v) : V σ (.fn f fs cs) (.func f fs' cs')
  | yield {id : Nat} {p : Plc} (h : σ id = some p) : V σ (.fn (.yield id) [] []) (.func (.yield p.b) #[] #[])
  | nilFn : V σ .nilFn .nilFunc
  | iface {t : TypeId} {a : AV} {v : Value} (h : V σ a v) : V σ (.iface t a) (.iface t v)
  | nilI : V σ .nilI .nilIface
  | agg {cs : List AV} {vs : Array Value} (h1 : cs.length = vs.size) (h2 : ∀ (i : Nat) (a : AV) (v : Value), cs[i]? = some a → vs[i]? = some v → V σ a v) : V σ (.agg cs) (.agg vs)
  | tup {cs : List AV} {vs : Array Value} (h1 : cs.length = vs.size) (h2 : ∀ (i : Nat) (a : AV) (v : Value), cs[i]? = some a → vs[i]? = some v → V σ a v) : V σ (.tup cs) (.tuple vs)

/-- Two lists, place by place. -/
def VL (σ : Sg) (cs : List AV) (vs : List Value) : Prop := cs.length = vs.length ∧ ∀ (i : Nat) (a : AV) (v : Value), cs[i]? = some a → vs[i]? = some v → V σ a v

theorem V.mono {σ σ' : Sg} (hle : ∀ id p, σ id = some p → σ' id = some p) {a : AV} {v : Value} (h : V σ a v) : V σ' a v := by
  induction h with
  | bool b => exact .bool b
  | int k n => exact .int k n
  | str h => exact .str h
  | ptrN => exact .ptrN
  | ptr h => exact .ptr (hle _ _ h)
  | sliceN h => exact .sliceN h
  | slice h hl hr hc ha => exact .slice (hle _ _ h) hl hr hc ha
  | mapN => exact .mapN
  | map h => exact .map (hle _ _ h)
  | fn hf h1 h2 h3 h4 ih2 ih4 => exact .fn hf h1 (fun i a v x y => ih2 i a v x y) h3 (fun i a v x y => ih4 i a v x y)
  | yield h => exact .yield (hle _ _ h)
  | nilFn => exact .nilFn
  | iface h ih => exact .iface ih
  | nilI => exact .nilI
  | agg h1 h2 ih => exact .agg h1 (fun i a v x y => ih i a v x y)
  | tup h1 h2 ih => exact .tup h1 (fun i a v x y => ih i a v x y)

theorem VL.mono {σ σ' : Sg} (hle : ∀ id p, σ id = some p → σ' id = some p) {a : List AV} {v : List Value} (h : VL σ a v) : VL σ' a v :=
  ⟨h.1, fun i a v x y => (h.2 i a v x y).mono hle⟩

theorem VL.nil {σ : Sg} : VL σ [] [] := ⟨rfl, fun i a v h _ => by simp at h⟩
theorem VL.cons {σ : Sg} {a : AV} {v : Value} {as : List AV} {vs : List Value} (h : V σ a v) (hs : VL σ as vs) : VL σ (a :: as) (v :: vs) := by
  refine ⟨by simp [hs.1], ?_⟩
  intro i x y hx hy
  cases i with
  | zero => simp at hx hy; subst hx; subst hy; exact h
  | succ i => simp at hx hy; exact hs.2 i x y hx hy
theorem VL.of_cons {σ : Sg} {a : AV} {v : Value} {as : List AV} {vs : List Value} (h : VL σ (a :: as) (v :: vs)) : V σ a v ∧ VL σ as vs :=
  ⟨h.2 0 a v (by simp) (by simp), ⟨by have := h.1; simpa using this, fun i x y hx hy => h.2 (i + 1) x y (by simpa using hx) (by simpa using hy)⟩⟩
theorem VL.inv_cons {σ : Sg} {a : AV} {as : List AV} {l : List Value} (h : VL σ (a :: as) l) : ∃ v vs, l = v :: vs ∧ V σ a v ∧ VL σ as vs := by
  cases l with
  | nil => have := h.1; simp at this
  | cons v vs => exact ⟨v, vs, rfl, h.of_cons.1, h.of_cons.2⟩
theorem VL.inv_nil {σ : Sg} {l : List Value} (h : VL σ [] l) : l = [] := by
  have := h.1; cases l with
  | nil => rfl
  | cons v vs => simp at this
theorem VL.get {σ : Sg} {as : List AV} {vs : List Value} (h : VL σ as vs) {i : Nat} {a : AV} (ha : as[i]? = some a) : ∃ v, vs[i]? = some v ∧ V σ a v := by
  have hi : i < as.length := by
    rcases Nat.lt_or_ge i as.length with h | h
    · exact h
    · simp [List.getElem?_eq_none h] at ha
  have hv : i < vs.length := h.1 ▸ hi
  exact ⟨vs[i], List.getElem?_eq_getElem hv, h.2 i a _ ha (List.getElem?_eq_getElem hv)⟩
theorem VL.append {σ : Sg} {as bs : List AV} {vs ws : List Value} (h : VL σ as vs) (k : VL σ bs ws) : VL σ (as ++ bs) (vs ++ ws) := by
  refine ⟨by simp [h.1, k.1], ?_⟩
  intro i x y hx hy
  rw [List.getElem?_append] at hx hy
  have e := h.1
  by_cases hi : i < as.length
  · rw [if_pos hi] at hx; rw [if_pos (by omega)] at hy; exact h.2 i x y hx hy
  · rw [if_neg hi] at hx; rw [if_neg (by omega), ← e] at hy; exact k.2 _ x y hx hy
theorem VL.drop {σ : Sg} {as : List AV} {vs : List Value} (h : VL σ as vs) (n : Nat) : VL σ (as.drop n) (vs.drop n) :=
  ⟨by simp [h.1], fun i x y hx hy => h.2 (n + i) x y (by simpa [List.getElem?_drop] using hx) (by simpa [List.getElem?_drop] using hy)⟩
theorem VL.take {σ : Sg} {as : List AV} {vs : List Value} (h : VL σ as vs) (n : Nat) : VL σ (as.take n) (vs.take n) := by
  refine ⟨by simp [h.1], ?_⟩
  intro i x y hx hy
  rw [List.getElem?_take] at hx hy
  by_cases hi : i < n
  · rw [if_pos hi] at hx hy; exact h.2 i x y hx hy
  · rw [if_neg hi] at hx; simp at hx

theorem V.of_agg {σ : Sg} {cs : List AV} {v : Value} (h : V σ (.agg cs) v) : ∃ vs, v = .agg vs ∧ VL σ cs vs.toList := by
  cases h with
  | agg h1 h2 => exact ⟨_, rfl, by simpa using h1, fun i a v x y => h2 i a v x (by simpa using y)⟩
theorem V.of_tup {σ : Sg} {cs : List AV} {v : Value} (h : V σ (.tup cs) v) : ∃ vs, v = .tuple vs ∧ VL σ cs vs.toList := by
  cases h with
  | tup h1 h2 => exact ⟨_, rfl, by simpa using h1, fun i a v x y => h2 i a v x (by simpa using y)⟩
theorem V.mk_agg {σ : Sg} {cs : List AV} {vs : List Value} (h : VL σ cs vs) : V σ (.agg cs) (.agg vs.toArray) := .agg (by simpa using h.1) (fun i a v x y => h.2 i a v x (by simpa using y))
theorem V.mk_agg' {σ : Sg} {cs : List AV} {vs : Array Value} (h : VL σ cs vs.toList) : V σ (.agg cs) (.agg vs) := .agg (by simpa using h.1) (fun i a v x y => h.2 i a v x (by simpa using y))
theorem V.mk_tup {σ : Sg} {cs : List AV} {vs : List Value} (h : VL σ cs vs) : V σ (.tup cs) (.tuple vs.toArray) := .tup (by simpa using h.1) (fun i a v x y => h.2 i a v x (by simpa using y))
theorem V.mk_tup' {σ : Sg} {cs : List AV} {vs : Array Value} (h : VL σ cs vs.toList) : V σ (.tup cs) (.tuple vs) := .tup (by simpa using h.1) (fun i a v x y => h.2 i a v x (by simpa using y))

theorem V.und {σ : Sg} : V σ und undef := .tup (by simp) (fun i a v h _ => by simp at h)

theorem V.cells {σ : Sg} {a : AV} {v : Value} (h : V σ a v) : VL σ a.cells v.cells.toList := by
  cases h with
  | agg h1 h2 => exact ⟨by simpa [AV.cells, Value.cells] using h1, fun i a v x y => h2 i a v x (by simpa [Value.cells] using y)⟩
  | _ => exact .cons (by constructor <;> assumption) .nil

theorem V.oneC {σ : Sg} {a : AV} {v : Value} (h : V σ a v) (ho : oneC a = true) : v.oneCell' = true := by
  cases h <;> simp_all [Ev.oneC, Value.oneCell']

theorem VL.oneC {σ : Sg} {as : List AV} {vs : List Value} (h : VL σ as vs) (ho : as.all Ev.oneC = true) : ∀ v ∈ vs, v.oneCell' = true := by
  intro v hv
  obtain ⟨i, hi⟩ := List.mem_iff_getElem?.1 hv
  have hlt : i < vs.length := by
    rcases Nat.lt_or_ge i vs.length with h | h
    · exact h
    · simp [List.getElem?_eq_none h] at hi
  have ha : as[i]? = some (as[i]'(by have := h.1; omega)) := List.getElem?_eq_getElem _
  exact (h.2 i _ v ha hi).oneC (List.all_eq_true.1 ho _ (List.getElem_mem _))

theorem absV_mapM {n : Nat} {σ : Sg} (ih : ∀ v a, absV n v = some a → V σ a v) : ∀ (l : List Value) (as : List AV), l.mapM (absV n) = some as → VL σ as l
  | [], as, h => by simp at h; subst h; exact .nil
  | v :: l, as, h => by
    rw [List.mapM_cons] at h
    cases h1 : absV n v with
    | none => simp [h1] at h
    | some a =>
      cases h2 : l.mapM (absV n) with
      | none => simp [h1, h2] at h
      | some bs => simp [h1, h2] at h; subst h; exact .cons (ih v a h1) (absV_mapM ih l bs h2)

theorem absV_V {σ : Sg} : ∀ (n : Nat) (v : Value) (a : AV), absV n v = some a → V σ a v := by
  intro n
  induction n with
  | zero => intro v a h; simp [absV] at h
  | succ n ih =>
    intro v a h
    unfold absV at h
    split at h
    all_goals first
      | (simp only [Option.some.injEq] at h; subst h; first | exact .bool _ | exact .int _ _ | exact .str rfl | exact .ptrN | exact .sliceN rfl | exact .mapN | exact .nilFn | exact .nilI)
      | skip
    · rename_i cs
      cases h1 : cs.toList.mapM (absV n) with
      | none => simp [h1] at h
      | some as => simp [h1] at h; subst h; exact .mk_agg' (absV_mapM ih _ _ h1)
    · rename_i cs
      cases h1 : cs.toList.mapM (absV n) with
      | none => simp [h1] at h
      | some as => simp [h1] at h; subst h; exact .mk_tup' (absV_mapM ih _ _ h1)
    · rename_i t v
      cases h1 : absV n v with
      | none => simp [h1] at h
      | some as => simp [h1] at h; subst h; exact .iface (ih _ _ h1)
    · simp at h

end Go.Ev

/- The evaluator's heap and the model's memory: what is read, what is written, what is new. No conditions beyond those that each theorem states. -/
namespace Go.Ev

def ER (σ : Sg) (e : AV × AV × Nat) (m : MapEntry) : Prop := V σ e.1 m.key ∧ V σ e.2.1 m.val ∧ e.2.2 = m.born

def TR (σ : Sg) (t : Tr AV) (n : Nat) (tmps : Array Value) : Prop := tmps.size = n ∧ ∀ i, V σ ((t.get i).getD und) (tmps.getD i undef)

def bytesN (s : ByteArray) : List Nat := s.data.toList.map (·.toNat)

def OR (σ : Sg) (o : AO) (p : Plc) (b : Option Obj) : Prop := match o with
  | .cells cs _ => ∃ c e, b = some (.cells c e (0, 0)) ∧ p.d + p.r ≤ c.size ∧ cs.length ≤ p.r ∧ ∀ (i : Nat) (a : AV), cs[i]? = some a → ∃ v, c[p.d + i]? = some v ∧ V σ a v
  | .ro cs => ∃ c e f, b = some (.cells c e f) ∧ p.d + p.r ≤ c.size ∧ cs.length ≤ p.r ∧ ∀ (i : Nat) (a : AV), cs[i]? = some a → ∃ v, c[p.d + i]? = some v ∧ V σ a v
  | .map es ck => ∃ es' : Array MapEntry, b = some (.map es' ck) ∧ es.length = es'.size ∧ ∀ (i : Nat) (e : AV × AV × Nat) (m : MapEntry), es[i]? = some e → es'[i]? = some m → ER σ e m
  | .siter s pos => ∃ s', b = some (.stringIter s' pos) ∧ bytesN s' = s ∧ p.d = 0
  | .miter m since seen st => ∃ m', b = some (.mapIter m' since seen.toArray st) ∧ p.d = 0 ∧ (match m with
      | none => m' = none
      | some id => ∃ q, σ id = some q ∧ m' = some q.b)
  | .loop st pend t n ps a bd d => ∃ f tmps q, b = some (.loop { state := st, pending := pend, fn := f, tmps, params := ps, assign := a, body := bd, defers := q.b }) ∧ σ d = some q ∧ TR σ t n tmps
  | .dfr tk => b = some (.deferred (if tk then none else some []))

theorem TR.mono {σ σ' : Sg} (hle : ∀ id p, σ id = some p → σ' id = some p) {t : Tr AV} {n : Nat} {tmps : Array Value} (h : TR σ t n tmps) : TR σ' t n tmps :=
  ⟨h.1, fun i => (h.2 i).mono hle⟩

theorem OR.mono {σ σ' : Sg} (hle : ∀ id p, σ id = some p → σ' id = some p) {o : AO} {p : Plc} {b : Option Obj} (h : OR σ o p b) : OR σ' o p b := by
  cases o with
  | cells cs f => obtain ⟨c, e, h1, h2, h3, h4⟩ := h; exact ⟨c, e, h1, h2, h3, fun i a ha => let ⟨v, hv, hV⟩ := h4 i a ha; ⟨v, hv, hV.mono hle⟩⟩
  | ro cs => obtain ⟨c, e, f, h1, h2, h3, h4⟩ := h; exact ⟨c, e, f, h1, h2, h3, fun i a ha => let ⟨v, hv, hV⟩ := h4 i a ha; ⟨v, hv, hV.mono hle⟩⟩
  | map es ck => obtain ⟨es', h1, h2, h3⟩ := h; exact ⟨es', h1, h2, fun i e m he hm => let ⟨a, b, c⟩ := h3 i e m he hm; ⟨a.mono hle, b.mono hle, c⟩⟩
  | siter s pos => exact h
  | miter m since seen st =>
    obtain ⟨m', h1, h0, h2⟩ := h
    refine ⟨m', h1, h0, ?_⟩
    cases m with
    | none => exact h2
    | some id => obtain ⟨q, hq, hm⟩ := h2; exact ⟨q, hle _ _ hq, hm⟩
  | loop st pend t n ps a bd d => obtain ⟨f, tmps, q, h1, h2, h3⟩ := h; exact ⟨f, tmps, q, h1, hle _ _ h2, h3.mono hle⟩
  | dfr tk => exact h

theorem OR.some {σ : Sg} {o : AO} {p : Plc} {b : Option Obj} (h : OR σ o p b) : b ≠ none := by
  intro e
  subst e
  cases o <;> simp [OR] at h

/-- Two objects that may share a block: cells of one family; rows that are only read. -/
def SameB (o o' : AO) : Prop := (∃ cs cs' f, o = .cells cs f ∧ o' = .cells cs' f) ∨ (∃ cs cs', o = .ro cs ∧ o' = .ro cs')

theorem SameB.left {o : AO} {cs : List AV} {f : Nat} (h : SameB o (.cells cs f)) : ∃ cs', o = .cells cs' f := by
  rcases h with ⟨a, b, c, e1, e2⟩ | ⟨a, b, e1, e2⟩
  · cases e2; exact ⟨_, e1⟩
  · cases e2

structure HR (σ : Sg) (h : H) (w : World) : Prop where
  obj : ∀ id o, h.objs.get id = some o → ∃ p, σ id = some p ∧ OR σ o p w.heap[p.b]?
  fresh : ∀ id, h.next ≤ id → σ id = none
  sep : ∀ i j o o' p q, i ≠ j → h.objs.get i = some o → h.objs.get j = some o' → σ i = some p → σ j = some q → p.b = q.b → SameB o o'
  fam : ∀ i cs f, h.objs.get i = some (.cells cs f) → f < h.next ∧ ∃ x y, h.fams.get f = some (x, y) ∧ (i = x ∨ i = y)
  lown : h.low ≤ h.next

theorem lt_of_get {w : World} {b : Nat} (h : w.heap[b]? ≠ none) : b < w.heap.size := by
  rcases Nat.lt_or_ge b w.heap.size with h' | h'
  · exact h'
  · simp [h'] at h

theorem HR.lt {σ : Sg} {h : H} {w : World} (hr : HR σ h w) {id : Nat} {o : AO} {p : Plc} (ho : h.objs.get id = some o) (hp : σ id = some p) : p.b < w.heap.size := by
  obtain ⟨q, hq, hor⟩ := hr.obj id o ho
  rw [hp] at hq
  cases hq
  exact lt_of_get hor.some

theorem HR.ltN {σ : Sg} {h : H} {w : World} (hr : HR σ h w) {id : Nat} {o : AO} (ho : h.objs.get id = some o) : id < h.next := by
  obtain ⟨q, hq, _⟩ := hr.obj id o ho
  rcases Nat.lt_or_ge id h.next with h' | h'
  · exact h'
  · rw [hr.fresh id h'] at hq; cases hq

/-- No row that is only read. -/
def OwnO (o : AO) : Prop := ∀ cs, o ≠ .ro cs

/-- What one piece of the run does. -/
structure Ext (σ σ' : Sg) (h h' : H) (w w' : World) : Prop where
  le : ∀ id p, σ id = some p → σ' id = some p
  next : h.next ≤ h'.next
  size : w.heap.size ≤ w'.heap.size
  os : w'.os = w.os
  tape : w'.tape = w.tape
  output : w'.output = w.output
  rng : ∀ id o p, h'.objs.get id = some o → σ' id = some p → w.heap.size ≤ p.b ∨ ∃ i o' q, h.objs.get i = some o' ∧ σ i = some q ∧ q.b = p.b ∧ (OwnO o → OwnO o')
  frame : ∀ b, b < w.heap.size → (∀ id o p, h.objs.get id = some o → OwnO o → σ id = some p → p.b ≠ b) → w'.heap[b]? = w.heap[b]?
  low : h'.low ≤ h.low
  same : ∀ id, id < h'.low → id < h.next → h'.objs.get id = h.objs.get id
  old : ∀ id, id < h.next → σ id = none → σ' id = none
  fams : ∀ id cs f, h'.objs.get id = some (.cells cs f) → h.next ≤ f ∨ ∃ i cs', h.objs.get i = some (.cells cs' f)

theorem Ext.refl (σ : Sg) (h : H) (w : World) : Ext σ σ h h w w :=
  ⟨fun _ _ h => h, Nat.le_refl _, Nat.le_refl _, rfl, rfl, rfl, fun id o p ho hp => .inr ⟨id, o, p, ho, hp, rfl, fun h => h⟩, fun _ _ _ => rfl, Nat.le_refl _, fun _ _ _ => rfl, fun _ _ h => h, fun id cs _ ho => .inr ⟨id, cs, ho⟩⟩

theorem Ext.trans {σ σ' σ'' : Sg} {h h' h'' : H} {w w' w'' : World} (a : Ext σ σ' h h' w w') (b : Ext σ' σ'' h' h'' w' w'') : Ext σ σ'' h h'' w w'' where
  le := fun id p hp => b.le _ _ (a.le _ _ hp)
  next := Nat.le_trans a.next b.next
  size := Nat.le_trans a.size b.size
  os := b.os.trans a.os
  tape := b.tape.trans a.tape
  output := b.output.trans a.output
  rng := by
    intro id o p ho hp
    rcases b.rng id o p ho hp with h1 | ⟨i, o', q, h1, h2, h3, g3⟩
    · exact .inl (Nat.le_trans a.size h1)
    · rcases a.rng i o' q h1 h2 with h4 | ⟨j, o'', r, h4, h5, h6, g6⟩
      · exact .inl (by omega)
      · exact .inr ⟨j, o'', r, h4, h5, by omega, fun h => g6 (g3 h)⟩
  frame := by
    intro bk hb hn
    rw [b.frame bk (Nat.lt_of_lt_of_le hb a.size), a.frame bk hb hn]
    intro id o p ho hw hp e
    rcases a.rng id o p ho hp with h1 | ⟨i, o', q, h1, h2, h3, g3⟩
    · omega
    · exact hn i o' q h1 (g3 hw) h2 (by omega)
  low := Nat.le_trans b.low a.low
  same := by
    intro id h1 h2
    rw [b.same id h1 (Nat.lt_of_lt_of_le h2 a.next), a.same id (Nat.lt_of_lt_of_le h1 b.low) h2]
  old := fun id h1 h2 => b.old id (Nat.lt_of_lt_of_le h1 a.next) (a.old id h1 h2)
  fams := by
    intro id cs f ho
    rcases b.fams id cs f ho with h1 | ⟨i, cs', h1⟩
    · exact .inl (Nat.le_trans a.next h1)
    · exact a.fams i cs' f h1

/-- A draw changes nothing that is looked at. -/
theorem HR.congr {σ : Sg} {h : H} {w w' : World} (hr : HR σ h w) (e : w'.heap = w.heap) : HR σ h w' :=
  ⟨fun id o ho => by rw [e]; exact hr.obj id o ho, hr.fresh, hr.sep, hr.fam, hr.lown⟩

theorem Ext.of_eq {σ : Sg} {h : H} {w w' : World} (e : w'.heap = w.heap) (e1 : w'.os = w.os) (e2 : w'.tape = w.tape) (e3 : w'.output = w.output) : Ext σ σ h h w w' :=
  ⟨fun _ _ h => h, Nat.le_refl _, by rw [e]; exact Nat.le_refl _, e1, e2, e3, fun id o p ho hp => .inr ⟨id, o, p, ho, hp, rfl, fun h => h⟩, fun _ _ _ => by rw [e], Nat.le_refl _, fun _ _ _ => rfl, fun _ _ h => h, fun id cs _ ho => .inr ⟨id, cs, ho⟩⟩

/-! ### Reading -/

theorem add_addr (b o n : Nat) : (⟨b, o, none⟩ : Addr).add n = ⟨b, o + n, none⟩ := by
  unfold Addr.add
  split
  · rename_i h; simp [h]
  · rfl

theorem cell_of {w : World} {b o : Nat} {c : Array Value} {e : TypeId} {f : Nat × Nat} (h : w.heap[b]? = some (.cells c e f)) : w.cell? ⟨b, o, none⟩ = c[o]? := by
  simp [World.cell?, h]

theorem frozen_of {w : World} {b o : Nat} {c : Array Value} {e : TypeId} (h : w.heap[b]? = some (.cells c e (0, 0))) : w.frozen? ⟨b, o, none⟩ = false := by
  simp [World.frozen?, h]

theorem HR.cells {σ : Sg} {h : H} {w : World} (hr : HR σ h w) {id : Nat} {cs : List AV} {f : Nat} (ho : h.objs.get id = some (.cells cs f)) :
    ∃ p c e, σ id = some p ∧ w.heap[p.b]? = some (.cells c e (0, 0)) ∧ p.d + p.r ≤ c.size ∧ cs.length ≤ p.r ∧ ∀ (i : Nat) (a : AV), cs[i]? = some a → ∃ v, c[p.d + i]? = some v ∧ V σ a v := by
  obtain ⟨p, hp, c, e, h1, h2, h3, h4⟩ := hr.obj id _ ho
  exact ⟨p, c, e, hp, h1, h2, h3, h4⟩

/-- A row: cells, or cells that are only read. -/
def IsRow (o : AO) (cs : List AV) : Prop := (∃ f, o = .cells cs f) ∨ o = .ro cs

theorem cell_of' {w : World} {b o : Nat} {c : Array Value} {e : TypeId} {f : Nat × Nat} (h : w.heap[b]? = some (.cells c e f)) : w.cell? ⟨b, o, none⟩ = c[o]? := by
  simp [World.cell?, h]

theorem HR.row {σ : Sg} {h : H} {w : World} (hr : HR σ h w) {id : Nat} {o : AO} {cs : List AV} (ho : h.objs.get id = some o) (hi : IsRow o cs) :
    ∃ p c e f, σ id = some p ∧ w.heap[p.b]? = some (.cells c e f) ∧ p.d + p.r ≤ c.size ∧ cs.length ≤ p.r ∧ ∀ (i : Nat) (a : AV), cs[i]? = some a → ∃ v, c[p.d + i]? = some v ∧ V σ a v := by
  obtain ⟨p, hp, hor⟩ := hr.obj id _ ho
  rcases hi with ⟨f, rfl⟩ | rfl
  · obtain ⟨c, e, h1, h2, h3, h4⟩ := hor; exact ⟨p, c, e, _, hp, h1, h2, h3, h4⟩
  · obtain ⟨c, e, f, h1, h2, h3, h4⟩ := hor; exact ⟨p, c, e, f, hp, h1, h2, h3, h4⟩

theorem H.chunk_eq {h : H} {id off n : Nat} {cs : List AV} (hc : h.chunk id off n = some cs) :
    ∃ o bs, h.objs.get id = some o ∧ IsRow o bs ∧ off + n ≤ bs.length ∧ cs = (bs.drop off).take n := by
  unfold H.chunk at hc
  split at hc
  · rename_i bs f ho
    obtain ⟨h1, h2⟩ := cond_some hc
    simp only [Option.some.injEq] at h2
    exact ⟨_, bs, ho, .inl ⟨f, rfl⟩, bleN h1, h2.symm⟩
  · rename_i bs ho
    obtain ⟨h1, h2⟩ := cond_some hc
    simp only [Option.some.injEq] at h2
    exact ⟨_, bs, ho, .inr rfl, bleN h1, h2.symm⟩
  · simp at hc

/-- The cells of a chunk, as they lie in memory. -/
theorem HR.chunk {σ : Sg} {h : H} {w : World} (hr : HR σ h w) {id off n : Nat} {cs : List AV} {p : Plc} (hc : h.chunk id off n = some cs) (hp : σ id = some p) :
    ∃ vs, VL σ cs vs ∧ cs.length = n ∧ ∀ (j : Nat) (v : Value), vs[j]? = some v → w.cell? ⟨p.b, p.d + off + j, none⟩ = some v := by
  obtain ⟨o, bs, ho, hi, hle, rfl⟩ := H.chunk_eq hc
  obtain ⟨q, c, e, f, hq, h1, h2, h3, h4⟩ := hr.row ho hi
  rw [hp] at hq
  cases hq
  have hlen : ((bs.drop off).take n).length = n := by simp; omega
  have hsz : ∀ j, j < n → p.d + (off + j) < c.size := fun j hj => by omega
  refine ⟨(List.range n).map fun j => (c[p.d + (off + j)]?).getD undef, ⟨by simp; omega, ?_⟩, hlen, ?_⟩
  · intro i a v ha hv
    have hi : i < n := by
      rcases Nat.lt_or_ge i n with h | h
      · exact h
      · rw [List.getElem?_eq_none (by omega)] at ha; simp at ha
    rw [List.getElem?_take, if_pos hi, List.getElem?_drop] at ha
    obtain ⟨u, hu, hV⟩ := h4 _ _ ha
    rw [List.getElem?_map, List.getElem?_range hi] at hv
    simp only [Option.map_some, Option.some.injEq] at hv
    rw [← hv, hu]
    exact hV
  · intro j v hv
    have hj : j < n := by
      rcases Nat.lt_or_ge j n with h | h
      · exact h
      · rw [List.getElem?_eq_none (by simp; omega)] at hv; simp at hv
    rw [List.getElem?_map, List.getElem?_range hj] at hv
    simp only [Option.map_some, Option.some.injEq] at hv
    rw [cell_of h1, show p.d + off + j = p.d + (off + j) by omega, Array.getElem?_eq_getElem (hsz j hj)]
    rw [Array.getElem?_eq_getElem (hsz j hj)] at hv
    simpa using hv

theorem run_loadChunk {P : Program} {w : World} {b o : Nat} {vs : List Value} (h : ∀ (j : Nat) (v : Value), vs[j]? = some v → w.cell? ⟨b, o + j, none⟩ = some v) :
    (loadCells ⟨b, o, none⟩ vs.length).run P w = .ok vs.toArray w :=
  run_loadCells_list w _ vs fun j v hv => by rw [add_addr]; exact h j v hv

/-! ### The tables of types -/

theorem run_typeInfo' {P : Program} {w : World} {t : TypeId} {i : TypeInfo} (h : P.info? t = some i) : (typeInfo t).run P w = .ok i w := by
  simp [typeInfo, h]

theorem run_und {P : Program} {w : World} {t : TypeId} {d : TypeDesc} (h : P.underlying t = some d) : (Go.underlying t).run P w = .ok d w := by
  simp [Go.underlying, h]

theorem run_sizeOf' {P : Program} {w : World} {t n : Nat} (h : sizeA P t = some n) : (sizeOf t).run P w = .ok n w := by
  unfold sizeA at h
  cases hi : P.info? t with
  | none => simp [hi] at h
  | some i => simp [hi] at h; subst h; simp [sizeOf, run_typeInfo' hi]

theorem run_isAgg' {P : Program} {w : World} {t : Nat} {b : Bool} (h : isAggA P t = some b) : (isAgg t).run P w = .ok b w := by
  unfold isAggA at h
  cases hi : P.underlying t with
  | none => simp [hi] at h
  | some d =>
    simp only [hi, Option.map_some, Option.some.injEq] at h
    subst h
    simp only [isAgg, Sem.run_bind, run_und hi, Result.andThen_ok]
    cases d <;> simp

theorem run_zero' {P : Program} {w : World} {σ : Sg} {t : Nat} {z : AV} (h : zeroA P t = some z) : ∃ v, (zeroValue t).run P w = .ok v w ∧ V σ z v ∧ ∃ i, P.info? t = some i ∧ i.zero = some v := by
  unfold zeroA at h
  cases hi : P.info? t with
  | none => simp [hi] at h
  | some i =>
    simp only [hi, Option.bind_some] at h
    cases hz : i.zero with
    | none => simp [hz] at h
    | some v =>
      simp only [hz, Option.bind_some] at h
      exact ⟨v, by simp [zeroValue, run_typeInfo' hi, hz], absV_V _ _ _ h, i, rfl, hz⟩

/-- A variable is read. -/
theorem HR.load_run {P : Program} {σ : Sg} {h : H} {w : World} (hr : HR σ h w) {t id off : Nat} {a : AV} {p : Plc} (hl : h.load P t id off = some a) (hp : σ id = some p) :
    ∃ v, (loadVar t ⟨p.b, p.d + off, none⟩).run P w = .ok v w ∧ V σ a v := by
  unfold H.load at hl
  split at hl
  · rename_i hag
    cases hn : sizeA P t with
    | none => simp [hn] at hl
    | some n =>
      simp only [hn, Option.bind_some] at hl
      cases hc : h.chunk id off n with
      | none => simp [hc] at hl
      | some cs =>
        simp only [hc, Option.map_some, Option.some.injEq] at hl
        subst hl
        obtain ⟨vs, hvl, hlen, hcell⟩ := hr.chunk hc hp
        refine ⟨.agg vs.toArray, ?_, .mk_agg hvl⟩
        have hl : vs.length = n := by rw [← hvl.1]; exact hlen
        simp only [loadVar, Sem.run_bind, run_isAgg' hag, Result.andThen_ok, if_true, run_sizeOf' hn]
        rw [← hl, run_loadChunk hcell]
        simp
  · rename_i hag
    split at hl
    · rename_i cs f ho
      obtain ⟨q, c, e, hq, h1, h2, h3, h4⟩ := hr.cells ho
      rw [hp] at hq
      cases hq
      obtain ⟨v, hv, hV⟩ := h4 _ _ hl
      refine ⟨v, ?_, hV⟩
      have hcell : w.cell? ⟨p.b, p.d + off, none⟩ = some v := by rw [cell_of h1]; exact hv
      simp [loadVar, run_isAgg' hag, hcell]
    · rename_i cs ho
      obtain ⟨q, c, e, f, hq, h1, h2, h3, h4⟩ := hr.row ho (.inr rfl)
      rw [hp] at hq
      cases hq
      obtain ⟨v, hv, hV⟩ := h4 _ _ hl
      refine ⟨v, ?_, hV⟩
      have hcell : w.cell? ⟨p.b, p.d + off, none⟩ = some v := by rw [cell_of h1]; exact hv
      simp [loadVar, run_isAgg' hag, hcell]
    · simp at hl
  · simp at hl

/-! ### A part of a value -/

theorem partA_run {P : Program} {σ : Sg} {w : World} {t off : Nat} {cs : List AV} {vs : Array Value} {a : AV} (hvs : VL σ cs vs.toList) (hl : partA P t cs off = some a) :
    ∃ v, (part t vs off).run P w = .ok v w ∧ V σ a v := by
  unfold partA at hl
  split at hl
  · rename_i hag
    cases hn : sizeA P t with
    | none => simp [hn] at hl
    | some n =>
      simp only [hn, Option.bind_some] at hl
      obtain ⟨hle, he⟩ := cond_some hl
      simp only [Option.some.injEq] at he
      subst he
      refine ⟨.agg (vs.extract off (off + n)), ?_, .mk_agg' ?_⟩
      · simp [part, run_isAgg' hag, run_sizeOf' hn]
      · have : (vs.extract off (off + n)).toList = (vs.toList.drop off).take n := by simp
        rw [this]
        exact (hvs.drop off).take n
  · rename_i hag
    obtain ⟨v, hv, hV⟩ := hvs.get hl
    refine ⟨v, ?_, hV⟩
    have hv' : vs[off]? = some v := by simpa using hv
    simp [part, run_isAgg' hag, hv']
  · simp at hl

end Go.Ev

/- The evaluator's heap and the model's memory: writes, new objects, appends. No conditions beyond those that each theorem states. -/
namespace Go.Ev

theorem minN_le (a b : Nat) : minN a b ≤ a ∧ minN a b ≤ b := by
  unfold minN
  cases h : Nat.ble a b
  · have := bleN_ne h; simp only [cond_ff]; omega
  · have := bleN h; simp only [cond_tt]; omega

/-- An object is changed, and no other lies in its block. -/
theorem HR.update {σ : Sg} {h h' : H} {w w' : World} (hr : HR σ h w) {id : Nat} {p : Plc} {o o' : AO} (ho : h.objs.get id = some o) (hp : σ id = some p)
    (hg : ∀ j x, h'.objs.get j = some x → (j = id ∧ x = o') ∨ (j ≠ id ∧ h.objs.get j = some x ∧ ∀ q, σ j = some q → q.b ≠ p.b))
    (hnext : h'.next = h.next) (hfam : ∀ i cs f, h'.objs.get i = some (.cells cs f) → f < h.next ∧ ∃ x y, h'.fams.get f = some (x, y) ∧ (i = x ∨ i = y))
    (hor : OR σ o' p w'.heap[p.b]?) (hw : ∀ b, b ≠ p.b → w'.heap[b]? = w.heap[b]?) (hs : w'.heap.size = w.heap.size) (e1 : w'.os = w.os) (e2 : w'.tape = w.tape) (e3 : w'.output = w.output)
    (hlow : h'.low ≤ h.low) (hsame : ∀ j, j < h'.low → j < h.next → h'.objs.get j = h.objs.get j)
    (hof : ∀ cs f, o' = .cells cs f → ∃ cs', o = .cells cs' f := by first | (intro cs f e; cases e; done) | (intro cs f e; cases e; exact ⟨_, rfl⟩))
    (hown : OwnO o := by (intro cs e; cases e)) : HR σ h' w' ∧ Ext σ σ h h' w w' := by
  refine ⟨⟨?_, ?_, ?_, ?_, ?_⟩, ⟨fun _ _ h => h, by omega, by omega, e1, e2, e3, ?_, ?_, hlow, hsame, fun _ _ h => h, ?_⟩⟩
  · intro j x hx
    rcases hg j x hx with ⟨rfl, rfl⟩ | ⟨_, h2, h3⟩
    · exact ⟨p, hp, hor⟩
    · obtain ⟨q, hq, hq2⟩ := hr.obj j x h2
      exact ⟨q, hq, by rw [hw _ (h3 q hq)]; exact hq2⟩
  · intro j hj; exact hr.fresh j (by omega)
  · intro i j x y q1 q2 hij hx hy h1 h2 hb
    rcases hg i x hx with ⟨rfl, rfl⟩ | ⟨_, a2, a3⟩
    · rcases hg j y hy with ⟨rfl, rfl⟩ | ⟨_, b2, b3⟩
      · exact absurd rfl hij
      · rw [hp] at h1; cases h1; exact absurd hb.symm (b3 _ h2)
    · rcases hg j y hy with ⟨rfl, rfl⟩ | ⟨_, b2, b3⟩
      · rw [hp] at h2; cases h2; exact absurd hb (a3 _ h1)
      · exact hr.sep i j x y q1 q2 hij a2 b2 h1 h2 hb
  · intro i cs f hi; rw [hnext]; exact hfam i cs f hi
  · have := hr.lown; omega
  · intro j x q hx hq
    rcases hg j x hx with ⟨rfl, rfl⟩ | ⟨_, h2, _⟩
    · exact .inr ⟨j, o, q, ho, hq, rfl, fun _ => hown⟩
    · exact .inr ⟨j, x, q, h2, hq, rfl, fun h => h⟩
  · intro b _ hn
    exact hw b fun e => hn id o p ho hown hp e.symm
  · intro j cs f hj
    rcases hg j _ hj with ⟨rfl, e⟩ | ⟨_, h2, _⟩
    · obtain ⟨cs', e'⟩ := hof cs f e.symm
      exact .inr ⟨j, cs', e' ▸ ho⟩
    · exact .inr ⟨j, cs, h2⟩

theorem alone_get {h : H} {id fam x y : Nat} (hf : h.fams.get fam = some (x, y)) (j : Nat) :
    (h.alone id fam).objs.get j = if (j = x ∨ j = y) ∧ j ≠ id ∧ (id = x ∨ id = y) then none else if (j = x ∨ j = y) ∧ j ≠ id then (h.alone id fam).objs.get j else h.objs.get j := by
  unfold H.alone
  rw [hf]
  simp only
  cases hx : Nat.beq x id <;> cases hy : Nat.beq y id <;> simp only [Bool.and_true, Bool.and_false, cond_tt, cond_ff]
  · have := beqN_ne hx; have := beqN_ne hy
    rw [put_get, put_get]
    by_cases h1 : j = y <;> by_cases h2 : j = x <;> simp [h1, h2] <;> omega
  · have := beqN_ne hx; have := beqN hy
    rw [put_get]
    by_cases h1 : j = x
    · subst h1; simp; omega
    · rw [if_neg h1]; by_cases h2 : j = y <;> simp [h1, h2] <;> omega
  · have := beqN hx; have := beqN_ne hy
    rw [put_get]
    by_cases h1 : j = y
    · subst h1; simp; omega
    · rw [if_neg h1]; by_cases h2 : j = x <;> simp [h1, h2] <;> omega
  · have := beqN hx; have := beqN hy
    subst x; subst y
    by_cases h1 : j = id <;> simp [h1]

/-- All that 'alone' does. -/
theorem alone_facts {σ : Sg} {h : H} {w : World} (hr : HR σ h w) {id fam : Nat} {cs : List AV} (ho : h.objs.get id = some (.cells cs fam)) :
    (h.alone id fam).objs.get id = some (.cells cs fam) ∧
    (∀ j o, (h.alone id fam).objs.get j = some o → h.objs.get j = some o) ∧
    (∀ j cs', (h.alone id fam).objs.get j = some (.cells cs' fam) → j = id) ∧
    (h.alone id fam).next = h.next ∧
    (∃ x y, (h.alone id fam).fams.get fam = some (x, y) ∧ (id = x ∨ id = y)) ∧
    (∀ f, f ≠ fam → (h.alone id fam).fams.get f = h.fams.get f) ∧
    (h.alone id fam).low ≤ h.low ∧
    (∀ j, j < (h.alone id fam).low → (h.alone id fam).objs.get j = h.objs.get j) := by
  obtain ⟨_, x, y, hf, hxy⟩ := hr.fam id cs fam ho
  have hget : ∀ j, (h.alone id fam).objs.get j = if (j = x ∨ j = y) ∧ j ≠ id then none else h.objs.get j := by
    intro j
    rw [alone_get hf j]
    by_cases hc : (j = x ∨ j = y) ∧ j ≠ id
    · rw [if_pos ⟨hc.1, hc.2, hxy⟩, if_pos hc]
    · rw [if_neg (fun h => hc ⟨h.1, h.2.1⟩), if_neg hc, if_neg hc]
  refine ⟨by rw [hget, if_neg (by simp), ho], ?_, ?_, ?_, ?_, ?_, ?_, ?_⟩
  · intro j o hj
    rw [hget] at hj
    split at hj
    · cases hj
    · exact hj
  · intro j cs' hj
    rw [hget] at hj
    split at hj
    · cases hj
    · rename_i hn
      obtain ⟨_, x', y', hf', hj'⟩ := hr.fam j cs' fam hj
      rw [hf] at hf'; cases hf'
      apply Classical.byContradiction; intro hne; exact hn ⟨hj', hne⟩
  · unfold H.alone; rw [hf]; simp only; cases (Nat.beq x id && Nat.beq y id) <;> rfl
  · unfold H.alone; rw [hf]; simp only
    cases hb : (Nat.beq x id && Nat.beq y id)
    · exact ⟨id, id, by rw [cond_ff]; exact put_same _ _ _, .inl rfl⟩
    · exact ⟨x, y, hf, hxy⟩
  · intro f hne; unfold H.alone; rw [hf]; simp only
    cases (Nat.beq x id && Nat.beq y id)
    · rw [cond_ff]; exact put_other _ _ hne
    · rfl
  · unfold H.alone; rw [hf]; simp only
    cases (Nat.beq x id && Nat.beq y id)
    · rw [cond_ff]; exact (minN_le _ _).1
    · exact Nat.le_refl _
  · intro j hj
    rw [hget]
    split
    · rename_i hc
      have hlt : j < minN x y := by
        unfold H.alone at hj; rw [hf] at hj; simp only at hj
        cases hb : (Nat.beq x id && Nat.beq y id)
        · rw [hb, cond_ff] at hj; exact Nat.lt_of_lt_of_le hj (minN_le _ _).2
        · simp only [Bool.and_eq_true] at hb
          have := beqN hb.1; have := beqN hb.2; omega
      have := minN_le x y
      omega
    · rfl

/-! ### Cells written in a row -/

theorem World.setCell_cells {w : World} {b o : Nat} {c : Array Value} {e : TypeId} {f : Nat × Nat} (h : w.heap[b]? = some (.cells c e f)) (v : Value) :
    (w.setCell ⟨b, o, none⟩ v).heap[b]? = some (.cells (c.setIfInBounds o v) e f) := by
  simp [World.setCell, Array.getElem?_modify, h]

theorem World.setCell_other' {w : World} {b k o : Nat} (v : Value) (hk : k ≠ b) : (w.setCell ⟨b, o, none⟩ v).heap[k]? = w.heap[k]? := by
  simp only [World.setCell, Array.getElem?_modify]
  rw [if_neg (fun h => hk h.symm)]

theorem run_storeCells {P : Program} {b o : Nat} {e : TypeId} : ∀ (vs : List Value) (i : Nat) (w : World) (c : Array Value), w.heap[b]? = some (.cells c e (0, 0)) → o + i + vs.length ≤ c.size → (∀ v ∈ vs, v.oneCell' = true) →
    ∃ w' c', (storeCells ⟨b, o, none⟩ vs i).run P w = .ok () w' ∧ w'.heap[b]? = some (.cells c' e (0, 0)) ∧ c'.size = c.size ∧
      (∀ j : Nat, c'[j]? = if o + i ≤ j ∧ j < o + i + vs.length then vs[j - (o + i)]? else c[j]?) ∧ (∀ k, k ≠ b → w'.heap[k]? = w.heap[k]?) ∧
      w'.heap.size = w.heap.size ∧ w'.os = w.os ∧ w'.tape = w.tape ∧ w'.output = w.output
  | [], i, w, c, h, _, _ => ⟨w, c, by simp [storeCells], h, rfl, fun j => by rw [if_neg (by simp only [List.length_nil]; omega)], fun _ _ => rfl, rfl, rfl, rfl, rfl⟩
  | v :: vs, i, w, c, h, hlen, hone => by
    simp only [List.length_cons] at hlen
    have hcell : w.cell? ⟨b, o + i, none⟩ = some (c[o + i]'(by omega)) := by rw [cell_of h]; exact Array.getElem?_eq_getElem _
    have h1 : (w.setCell ⟨b, o + i, none⟩ v).heap[b]? = some (.cells (c.setIfInBounds (o + i) v) e (0, 0)) := World.setCell_cells h v
    obtain ⟨w', c', hrun, hw', hsz, hget, hoth, s1, s2, s3, s4⟩ := run_storeCells (P := P) (o := o) vs (i + 1) (w.setCell ⟨b, o + i, none⟩ v) (c.setIfInBounds (o + i) v) h1 (by simp; omega) (fun u hu => hone u (by simp [hu]))
    refine ⟨w', c', ?_, hw', by simpa using hsz, ?_, ?_, ?_, ?_, ?_, ?_⟩
    · simp only [storeCells, Sem.run_bind, add_addr]
      rw [run_store P w _ v .plain (hone v (by simp)), hcell]
      simp only [frozen_of h, Bool.false_eq_true, if_false, Result.andThen_ok]
      exact hrun
    · intro j
      rw [hget]
      by_cases hj : o + (i + 1) ≤ j ∧ j < o + (i + 1) + vs.length
      · rw [if_pos hj, if_pos (by simp; omega)]
        rw [show j - (o + i) = (j - (o + (i + 1))) + 1 by omega, List.getElem?_cons_succ]
      · rw [if_neg hj, Array.getElem?_setIfInBounds]
        by_cases hj2 : o + i = j
        · subst hj2
          rw [if_pos rfl, if_pos (by omega), if_pos (by simp)]
          simp
        · rw [if_neg hj2, if_neg (by simp; omega)]
    · intro k hk; rw [hoth k hk, World.setCell_other' _ hk]
    · rw [s1]; simp
    · rw [s2]; rfl
    · rw [s3]; rfl
    · rw [s4]; rfl

theorem getElem?_splice {α : Type} (cs vs : List α) (off : Nat) (h : off + vs.length ≤ cs.length) (j : Nat) :
    (cs.take off ++ (vs ++ cs.drop (off + vs.length)))[j]? = if off ≤ j ∧ j < off + vs.length then vs[j - off]? else cs[j]? := by
  have h1 : (cs.take off).length = off := by simp; omega
  rw [List.getElem?_append, h1]
  by_cases ha : j < off
  · rw [if_pos ha, if_neg (by omega), List.getElem?_take, if_pos ha]
  · rw [if_neg ha, List.getElem?_append]
    by_cases hb : j - off < vs.length
    · rw [if_pos hb, if_pos (by omega)]
    · rw [if_neg hb, if_neg (by omega), List.getElem?_drop]
      congr 1; omega

/-- Cells of a block are stored. -/
theorem HR.store_run {P : Program} {σ : Sg} {h h' : H} {w : World} (hr : HR σ h w) {id off : Nat} {as : List AV} {vs : List Value} {p : Plc} (hs : h.store id off as = some h') (hp : σ id = some p) (hv : VL σ as vs) :
    ∃ w', (storeCells ⟨p.b, p.d + off, none⟩ vs).run P w = .ok () w' ∧ HR σ h' w' ∧ Ext σ σ h h' w w' := by
  unfold H.store at hs
  split at hs
  · rename_i cs fam ho
    obtain ⟨hc, he⟩ := cond_some hs
    simp only [Bool.and_eq_true] at hc
    obtain ⟨hle, hone⟩ := hc
    have hle := bleN hle
    simp only [Option.some.injEq] at he
    obtain ⟨q, c, e, hq, h1, h2, h3, h4⟩ := hr.cells ho
    rw [hp] at hq; cases hq
    have hl := hv.1
    obtain ⟨w', c', hrun, hw', hsz, hget, hoth, s1, s2, s3, s4⟩ := run_storeCells (P := P) (o := p.d + off) vs 0 w c h1 (by omega) (hv.oneC hone)
    obtain ⟨a1, a2, a3, a4, a5, a6, a7, a8⟩ := alone_facts hr ho
    refine ⟨w', hrun, ?_⟩
    subst he
    refine hr.update (o' := .cells (cs.take off ++ (as ++ cs.drop (off + as.length))) fam) ho hp ?_ a4 ?_ ?_ hoth s1 s2 s3 s4 (Nat.le_trans (minN_le _ _).1 a7) ?_
    · intro j x hx
      simp only [put_get] at hx
      split at hx
      · rename_i e; cases hx; exact .inl ⟨e, rfl⟩
      · rename_i hne
        have hx' := a2 j x hx
        refine .inr ⟨hne, hx', ?_⟩
        intro q hq hb
        obtain ⟨cs1, e1⟩ := (hr.sep j id x _ q p hne hx' ho hq hp hb).left
        subst e1
        exact hne (a3 j cs1 hx)
    · intro i cs' f hi
      simp only [put_get] at hi
      split at hi
      · rename_i e; cases hi; subst e; exact ⟨(hr.fam i _ _ ho).1, a5⟩
      · rename_i hne
        have hi' := a2 _ _ hi
        obtain ⟨b1, x, y, b2, b3⟩ := hr.fam i _ _ hi'
        refine ⟨b1, x, y, ?_, b3⟩
        rw [a6 f (fun e => hne (a3 i cs' (e ▸ hi)))]
        exact b2
    · refine ⟨c', e, hw', by rw [hsz]; exact h2, by simp; omega, ?_⟩
      intro i a ha
      rw [getElem?_splice _ _ _ hle] at ha
      rw [hget]
      by_cases hi : off ≤ i ∧ i < off + as.length
      · rw [if_pos hi] at ha
        rw [if_pos (by omega)]
        obtain ⟨v, hv1, hv2⟩ := hv.get ha
        exact ⟨v, by rw [show p.d + i - (p.d + off + 0) = i - off by omega]; exact hv1, hv2⟩
      · rw [if_neg hi] at ha
        rw [if_neg (by omega)]
        exact h4 i a ha
    · intro j hj hjn
      simp only [put_get]
      have hm := minN_le (h.alone id fam).low id
      rw [if_neg (by simp only at hj; omega)]
      exact a8 j (by simp only at hj; omega)
  · simp at hs

/-- A variable is stored. -/
theorem HR.storeVar_run {P : Program} {σ : Sg} {h h' : H} {w : World} (hr : HR σ h w) {t id off : Nat} {a : AV} {v : Value} {p : Plc} (hs : h.storeVar P t id off a = some h') (hp : σ id = some p) (hv : V σ a v) :
    ∃ w', (storeVar t ⟨p.b, p.d + off, none⟩ v).run P w = .ok () w' ∧ HR σ h' w' ∧ Ext σ σ h h' w w' := by
  unfold H.storeVar at hs
  cases hn : sizeA P t with
  | none => simp [hn] at hs
  | some n =>
    simp only [hn, Option.bind_some] at hs
    obtain ⟨hc, he⟩ := cond_some hs
    have hc := beqN hc
    obtain ⟨w', hrun, h1, h2⟩ := hr.store_run (P := P) he hp hv.cells
    refine ⟨w', ?_, h1, h2⟩
    have hsz : v.cells.size = n := by have := hv.cells.1; simp at this; omega
    simp only [storeVar, Sem.run_bind, run_sizeOf' hn, Result.andThen_ok, hsz, ne_eq, not_true_eq_false, if_false]
    simpa using hrun

/-! ### New objects -/

def up (σ : Sg) (id : Nat) (p : Plc) : Sg := fun j => if j = id then some p else σ j

theorem up_le {σ : Sg} {id : Nat} {p : Plc} (h : σ id = none) : ∀ j q, σ j = some q → up σ id p j = some q := by
  intro j q hq
  unfold up
  split
  · rename_i e; subst e; rw [h] at hq; cases hq
  · exact hq

theorem up_same (σ : Sg) (id : Nat) (p : Plc) : up σ id p id = some p := by simp [up]

theorem lay_get (h : H) (id : Nat) (o : AO) (j : Nat) : (h.lay id o).objs.get j = if j = id then some o else h.objs.get j := by
  unfold H.lay
  split <;> exact put_get _ _ _ _

theorem lay_next (h : H) (id : Nat) (o : AO) : (h.lay id o).next = h.next := by unfold H.lay; split <;> rfl
theorem lay_low (h : H) (id : Nat) (o : AO) : (h.lay id o).low = h.low := by unfold H.lay; split <;> rfl

/-- A new object in a new block. -/
theorem HR.lay {σ : Sg} {h : H} {w w' : World} (hr : HR σ h w) {id r : Nat} {o : AO} {ob : Obj} (hid : σ id = none) (hlt : id < h.next) (hlow : h.low ≤ id)
    (hf : ∀ j cs, h.objs.get j ≠ some (.cells cs id)) (hof : ∀ cs f, o = .cells cs f → f = id)
    (hor : OR (up σ id ⟨w.heap.size, 0, r⟩) o ⟨w.heap.size, 0, r⟩ (some ob)) (hw : w'.heap = w.heap.push ob) (e1 : w'.os = w.os) (e2 : w'.tape = w.tape) (e3 : w'.output = w.output) :
    HR (up σ id ⟨w.heap.size, 0, r⟩) (h.lay id o) w' ∧ Ext σ (up σ id ⟨w.heap.size, 0, r⟩) { h with next := id } (h.lay id o) w w' := by
  have hle := up_le (p := ⟨w.heap.size, 0, r⟩) hid
  have hnone : h.objs.get id = none := by
    cases hg : h.objs.get id with
    | none => rfl
    | some x => obtain ⟨p, hp, _⟩ := hr.obj id x hg; rw [hid] at hp; cases hp
  have hold : ∀ b, b < w.heap.size → w'.heap[b]? = w.heap[b]? := by
    intro b hb; rw [hw, Array.getElem?_push, if_neg (by omega)]
  have hother : ∀ j x, h.objs.get j = some x → ∀ q, up σ id ⟨w.heap.size, 0, r⟩ j = some q → σ j = some q ∧ q.b < w.heap.size := by
    intro j x hx q hq
    have hj : j ≠ id := fun e => by subst e; rw [hnone] at hx; cases hx
    have : σ j = some q := by simpa [up, hj] using hq
    exact ⟨this, hr.lt hx this⟩
  refine ⟨⟨?_, ?_, ?_, ?_, ?_⟩, ⟨hle, by rw [lay_next]; simp only; omega, by rw [hw]; simp, e1, e2, e3, ?_, ?_, by rw [lay_low]; simp, ?_, ?_, ?_⟩⟩
  · intro j x hx
    rw [lay_get] at hx
    split at hx
    · rename_i e; cases hx; subst e
      refine ⟨_, up_same _ _ _, ?_⟩
      rw [hw]; simpa using hor
    · obtain ⟨p, hp, h2⟩ := hr.obj j x hx
      have := hr.lt hx hp
      exact ⟨p, hle _ _ hp, by rw [hold _ this]; exact h2.mono hle⟩
  · intro j hj
    rw [lay_next] at hj
    have : j ≠ id := by omega
    simp [up, this, hr.fresh j hj]
  · intro i j x y p q hij hx hy hp hq hb
    rw [lay_get] at hx hy
    split at hx
    · rename_i e1; split at hy
      · omega
      · subst e1; cases hx
        have h1 := hother j y hy q hq
        rw [up_same] at hp; cases hp
        simp only at hb; omega
    · split at hy
      · rename_i e1; subst e1; cases hy
        have h1 := hother i x hx p hp
        rw [up_same] at hq; cases hq
        simp only at hb; omega
      · exact hr.sep i j x y p q hij hx hy (hother i x hx p hp).1 (hother j y hy q hq).1 hb
  · intro i cs f hi
    rw [lay_get] at hi
    split at hi
    · rename_i e; cases hi; subst e
      have := hof cs f rfl; subst this
      refine ⟨by rw [lay_next]; omega, f, f, ?_, .inl rfl⟩
      unfold H.lay; exact put_same _ _ _
    · obtain ⟨b1, x, y, b2, b3⟩ := hr.fam i cs f hi
      refine ⟨by rw [lay_next]; omega, x, y, ?_, b3⟩
      have hne : f ≠ id := fun e => hf i cs (e ▸ hi)
      unfold H.lay
      split
      · simp only; rw [put_other _ _ hne]; exact b2
      · exact b2
  · rw [lay_low, lay_next]; exact hr.lown
  · intro j x q hx hq
    rw [lay_get] at hx
    split at hx
    · rename_i e; subst e; rw [up_same] at hq; cases hq; exact .inl (Nat.le_refl _)
    · exact .inr ⟨j, x, q, hx, (hother j x hx q hq).1, rfl, fun h => h⟩
  · intro b hb _; exact hold b hb
  · intro j hj hjn
    rw [lay_low] at hj
    rw [lay_get, if_neg (by omega)]
  · intro j hj hn
    have hj : j < id := hj
    simp only [up]; rw [if_neg (by omega)]; exact hn
  · intro j cs f hj
    rw [lay_get] at hj
    split at hj
    · cases hj; exact .inl (Nat.le_of_eq (hof cs f rfl).symm)
    · exact .inr ⟨j, cs, hj⟩

theorem HR.more {σ : Sg} {h : H} {w : World} (hr : HR σ h w) (n : Nat) (hn : h.next ≤ n) : HR σ { h with next := n } w :=
  ⟨hr.obj, fun id hid => hr.fresh id (Nat.le_trans hn hid), hr.sep, fun i cs f hi => let ⟨a, b⟩ := hr.fam i cs f hi; ⟨Nat.lt_of_lt_of_le a hn, b⟩, Nat.le_trans hr.lown hn⟩

theorem Ext.more {σ σ' : Sg} {h h' : H} {w w' : World} {n : Nat} (hn : h.next ≤ n) (he : Ext σ σ' { h with next := n } h' w w') : Ext σ σ' h h' w w' :=
  ⟨he.le, Nat.le_trans hn he.next, he.size, he.os, he.tape, he.output, he.rng, he.frame, he.low, fun id h1 h2 => he.same id h1 (Nat.lt_of_lt_of_le h2 hn), fun id h1 h2 => he.old id (Nat.lt_of_lt_of_le h1 hn) h2,
    fun id cs f ho => (he.fams id cs f ho).imp (fun h => Nat.le_trans hn h) (fun h => h)⟩

theorem lay_more (h : H) (id n : Nat) (o : AO) : { h.lay id o with next := n } = ({ h with next := n } : H).lay id o := by unfold H.lay; split <;> rfl

/-- A new object at the next number. -/
theorem HR.new {σ : Sg} {h : H} {w w' : World} (hr : HR σ h w) {r : Nat} {o : AO} {ob : Obj} (hof : ∀ cs f, o = .cells cs f → f = h.next)
    (hor : OR (up σ h.next ⟨w.heap.size, 0, r⟩) o ⟨w.heap.size, 0, r⟩ (some ob)) (hw : w'.heap = w.heap.push ob) (e1 : w'.os = w.os) (e2 : w'.tape = w.tape) (e3 : w'.output = w.output) :
    HR (up σ h.next ⟨w.heap.size, 0, r⟩) { h.lay h.next o with next := h.next + 1 } w' ∧ Ext σ (up σ h.next ⟨w.heap.size, 0, r⟩) h { h.lay h.next o with next := h.next + 1 } w w' := by
  rw [lay_more]
  have := HR.lay (hr.more (h.next + 1) (by omega)) (id := h.next) (o := o) (ob := ob) (w' := w') (r := r) (hr.fresh _ (Nat.le_refl _)) (by simp) hr.lown
    (fun j cs hj => by have := (hr.fam j cs _ hj).1; omega) hof hor hw e1 e2 e3
  exact ⟨this.1, this.2⟩

/-- A row of cells that is new. -/
theorem OR_row {σ : Sg} {as : List AV} {vs : List Value} {id b : Nat} {e : TypeId} (hv : VL σ as vs) {c : Array Value} (hc : c.toList.take vs.length = vs) : OR σ (.cells as id) ⟨b, 0, c.size⟩ (some (.cells c e (0, 0))) := by
  have hlen : vs.length ≤ c.size := by
    have := congrArg List.length hc; simp at this; omega
  refine ⟨c, e, rfl, by simp, by have := hv.1; simp only; omega, ?_⟩
  intro i a ha
  obtain ⟨v, h1, h2⟩ := hv.get ha
  refine ⟨v, ?_, h2⟩
  have hi : i < vs.length := by
    rcases Nat.lt_or_ge i vs.length with h | h
    · exact h
    · simp [List.getElem?_eq_none h] at h1
  rw [← hc, List.getElem?_take, if_pos hi] at h1
  simpa using h1

end Go.Ev
