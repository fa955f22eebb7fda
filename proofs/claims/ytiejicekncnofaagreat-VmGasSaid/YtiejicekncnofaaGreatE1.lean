/-
  Part 1 of what the row needs: the executor and what is said of the program's functions, each shown; no condition.
-/
import Derived.AtR
import Derived.Below
import Derived.ChangeKeysEq
import Derived.Laws.BytesString
import Derived.Laws.Cells
import Derived.Laws.Entries
import Derived.Laws.NewFold
import Derived.Laws.Sem
import Derived.Laws.StructEq
import Derived.Laws.World
section
namespace Go.Abs
inductive AV where
  | v (x : Value)
  | junk
  | agg (cs : List AV)
  | tuple (vs : List AV)
  | iface (t : TypeId) (x : AV)
  | func (fn : Fn) (first captured : List AV)
  | ptr (id off : Nat)
  | eptr (id i off : Nat)
  | dptr (e : List AV)
  | sl (sz : Nat) (es : List (List AV))
  | wref (id : Nat)
  | sref (id off n : Nat)
  | aref (id off n : Nat)
  | yld (id : Nat)
  deriving Inhabited
inductive AObj where
  | cells (cs : List AV)
  | row (sz : Nat) (es : List (List AV))
  | frow (sz : Nat) (es : List (List AV))
  | loop (fn : FuncId) (tmps : List AV) (params : List Tmp) (assign body : Code) (pending : Option Code)
  | dblk
  | dead
  | bld (t : TypeId) (j : Option Nat)
  | brow (e : TypeId) (bs : ByteArray)
  | ints (k : IntKind) (ds : List Int)
  deriving Inhabited
inductive AEnd where
  | ret (x : AV)
  | panic (x : AV)
def ofV : Value → AV
  | .agg cs => .agg (cs.toList.map .v)
  | .tuple vs => .tuple (vs.toList.map .v)
  | x => .v x
def AV.cells : AV → List AV
  | .agg cs => cs
  | x => [x]
def oneV : Value → Bool
  | .agg _ => false
  | .tuple _ => false
  | _ => true
def oneA : AV → Bool
  | .v x => oneV x
  | .junk => false
  | .agg _ => false
  | .tuple _ => false
  | _ => true
def oneL : List AV → Bool
  | [] => true
  | c :: cs => oneA c && oneL cs
def setL : List AV → Nat → List AV → List AV
  | cs, _, [] => cs
  | cs, i, x :: xs => setL (cs.set i x) (i + 1) xs
mutual
def pureA : AV → Bool
  | .v _ => true
  | .junk => true
  | .agg cs => pureL cs
  | .tuple vs => pureL vs
  | .iface _ x => pureA x
  | .func _ a b => pureL a && pureL b
  | .dptr _ => true
  | .sl _ _ => true
  | _ => false
def pureL : List AV → Bool
  | [] => true
  | c :: cs => pureA c && pureL cs
end
mutual
def refsA : AV → List Nat
  | .agg cs => refsL cs
  | .tuple vs => refsL vs
  | .iface _ x => refsA x
  | .func _ a b => refsL a ++ refsL b
  | .ptr i _ => [i]
  | .eptr i _ _ => [i]
  | .wref i => [i]
  | .sref i _ _ => [i]
  | .aref i _ _ => [i]
  | .yld i => [i]
  | _ => []
def refsL : List AV → List Nat
  | [] => []
  | c :: cs => refsA c ++ refsL cs
end
def AObj.refs : AObj → List Nat
  | .cells cs => refsL cs
  | .loop _ tmps _ _ _ _ => refsL tmps
  | .bld _ (some j) => [j]
  | _ => []
def look (os : List AObj) (i : Nat) : AObj := os.getD i .dead
def hasN (l : List Nat) (i : Nat) : Bool := match l with
  | [] => false
  | j :: l => Nat.beq i j || hasN l i
def reach (lk : Nat → AObj) : Nat → List Nat → List Nat → List Nat
  | 0, _, acc => acc
  | _ + 1, [], acc => acc
  | n + 1, i :: todo, acc => bif hasN acc i then reach lk n todo acc else reach lk n (todo ++ (lk i).refs) (acc ++ [i])
abbrev Sub := Nat → Option Nat
mutual
def subA (s : Sub) : AV → AV
  | .agg cs => .agg (subL s cs)
  | .tuple vs => .tuple (subL s vs)
  | .iface t x => .iface t (subA s x)
  | .func fn a b => .func fn (subL s a) (subL s b)
  | .ptr i o => match s i with | some j => .ptr j o | none => .junk
  | .eptr i n o => match s i with | some j => .eptr j n o | none => .junk
  | .wref i => match s i with | some j => .wref j | none => .junk
  | .sref i o n => match s i with | some j => .sref j o n | none => .junk
  | .aref i o n => match s i with | some j => .aref j o n | none => .junk
  | .yld i => match s i with | some j => .yld j | none => .junk
  | x => x
def subL (s : Sub) : List AV → List AV
  | [] => []
  | c :: cs => subA s c :: subL s cs
end
def AObj.sub (s : Sub) : AObj → AObj
  | .cells cs => .cells (subL s cs)
  | .loop f tm ps a b p => .loop f (subL s tm) ps a b p
  | .bld t (some j) => match s j with | some k => .bld t (some k) | none => .cells []
  | x => x
inductive LK where
  | int (k : IntKind)
  | bool
  | str
  | slice (sz : Nat)
  | other
def AV.isInt (k : IntKind) : AV → Bool
  | .v (.int k' _) => decide (k = k')
  | _ => false
def AV.toInt : AV → Int
  | .v (.int _ n) => n
  | _ => 0
def AV.isBool : AV → Bool
  | .v (.bool _) => true
  | _ => false
def AV.toBool : AV → Bool
  | .v (.bool b) => b
  | _ => false
def AV.isStr : AV → Bool
  | .v (.string _) => true
  | _ => false
def AV.toStr : AV → ByteArray
  | .v (.string s) => s
  | _ => .empty
def AV.isSl (sz : Nat) : AV → Bool
  | .sl sz' _ => Nat.beq sz sz'
  | .v (.slice none 0 0) => true
  | _ => false
def AV.toSl : AV → List (List AV)
  | .sl _ es => es
  | _ => []
def LK.ok : LK → AV → Bool
  | .int k, x => x.isInt k
  | .bool, x => x.isBool
  | .str, x => x.isStr
  | .slice sz, x => x.isSl sz
  | .other, _ => true
def LK.dec : LK → AV → AV
  | .int k, x => .v (.int k x.toInt)
  | .bool, x => .v (.bool x.toBool)
  | .str, x => .v (.string x.toStr)
  | .slice sz, x => .sl sz x.toSl
  | .other, x => x
def LK.raw : LK → LK
  | .slice _ => .other
  | k => k
def LK.frz (lk : Nat → AObj) : LK → AV → AV
  | .slice sz, .v (.slice none 0 0) => .sl sz []
  | _, .wref i => match lk i with
    | .row sz es => .sl sz es
    | .frow sz es => .sl sz es
    | _ => .wref i
  | _, .sref i off n => match lk i with
    | .row sz es => .sl sz ((es.drop off).take n)
    | .frow sz es => .sl sz ((es.drop off).take n)
    | _ => .sref i off n
  | _, x => x
def frzL (lk : Nat → AObj) : List LK → List AV → List AV
  | k :: ks, c :: cs => k.frz lk c :: frzL lk ks cs
  | _, cs => cs
def frz1 (lk : Nat → AObj) (ks : List LK) : AV → AV
  | .agg cs => .agg (frzL lk ks cs)
  | x => match ks with
    | [k] => k.frz lk x
    | _ => x
def ownIds (lk : Nat → AObj) : AV → List Nat
  | .wref i => match lk i with | .row _ _ => [i] | _ => []
  | .sref i _ _ => match lk i with | .row _ _ => [i] | _ => []
  | _ => []
def ownIds1 (lk : Nat → AObj) : AV → List Nat
  | .agg cs => cs.flatMap (ownIds lk)
  | x => ownIds lk x
def frzObj : AObj → AObj
  | .row sz es => .frow sz es
  | x => x
section types
variable (P : Program)
def isAggT (t : TypeId) : Bool := match P.underlying t with
  | some (.struct _) => true
  | some (.array _ _) => true
  | _ => false
def zeroL (t : TypeId) : Option (List AV) := ((P.info? t).bind (·.zero)).map fun z => z.cells.toList.map .v
def zeroOk (e : TypeId) : Bool := match zeroL P e with
  | some z => Nat.beq z.length (P.cellsOf e) && !(Nat.beq (P.cellsOf e) 0)
  | none => false
def leafs : Nat → TypeId → List LK
  | 0, _ => []
  | d + 1, t => match P.underlying t with
    | some (.int k) => [.int k]
    | some .bool => [.bool]
    | some .string => [.str]
    | some (.slice e) => [.slice (P.cellsOf e)]
    | some (.array n e) => (List.replicate n (leafs d e)).flatten
    | some (.struct fs) => fs.toList.flatMap fun f => leafs d f.type
    | _ => [.other]
def decs : List LK → List AV → Nat → List AV
  | [], _, _ => []
  | k :: ks, cs, i => k.dec (cs.getD i .junk) :: decs ks cs (i + 1)
def oks : List LK → List AV → Nat → Bool
  | [], _, _ => true
  | k :: ks, cs, i => decide (i < cs.length) && (k.ok (cs.getD i .junk) && oks ks cs (i + 1))
def loadC (t : TypeId) (ks : List LK) (cs : List AV) (off : Nat) : Option (Bool × AV) :=
  if isAggT P t then (if ks.length = P.cellsOf t then some (oks ks cs off, .agg (decs ks cs off)) else none)
  else match P.underlying t, ks with
    | some _, [k] => some (oks [k] cs off, k.dec (cs.getD off .junk))
    | _, _ => none
def fillL (place : Nat → Option (Nat × Nat)) : List AV → List (Nat × AV) → Option (List AV)
  | cs, [] => some cs
  | cs, (i, x) :: rest => match place i with
    | none => none
    | some (off, size) => if x.cells.length = size ∧ off + size ≤ cs.length ∧ oneL x.cells = true then fillL place (setL cs off x.cells) rest else none
end types
def evA (tm : List AV) : Operand → AV
  | .tmp t => tm.getD t .junk
  | .const x => ofV x
  | .global g => .v (.pointer (some ⟨g, 0, none⟩))
  | .func f => .func (.func f) [] []
def elemsIn (lk : Nat → AObj) (d : Nat) : AV → Option (Bool × List (List AV))
  | .v (.slice none 0 0) => some (true, [])
  | .v (.string s) => if d = 1 then some (true, s.data.toList.map fun b => [.v (.int .u8 b.toNat)]) else none
  | .sl sz es => if sz = d then some (true, es) else none
  | .wref i => match lk i with
    | .row sz es => if sz = d then some (true, es) else none
    | .frow sz es => if sz = d then some (true, es) else none
    | _ => none
  | .sref i off n => match lk i with
    | .row sz es => if sz = d then some (true, (es.drop off).take n) else none
    | .frow sz es => if sz = d then some (true, (es.drop off).take n) else none
    | _ => none
  | .aref i off n => match lk i with
    | .cells cs => if d = 1 then some (decide (off + n ≤ cs.length) && pureL ((cs.drop off).take n), ((cs.drop off).take n).map fun c => [c]) else none
    | _ => none
  | _ => none
def rowSz (lk : Nat → AObj) (i : Nat) : Option Nat := match lk i with
  | .row sz _ => some sz
  | .frow sz _ => some sz
  | _ => none
def lenA (lk : Nat → AObj) : AV → Option Nat
  | .v (.slice none 0 0) => some 0
  | .sl _ es => some es.length
  | .wref i => match lk i with
    | .row _ es => some es.length
    | .frow _ es => some es.length
    | _ => none
  | .sref _ _ n => some n
  | .aref _ _ n => some n
  | _ => none
def byteOf (e : List AV) : UInt8 := UInt8.ofNat ((e.getD 0 .junk).toInt).toNat
def isByte (e : List AV) : Bool := (e.getD 0 .junk).isInt .u8
def boolV (b : Bool) : AV := .v (.bool b)
def intV (k : IntKind) (n : Int) : AV := .v (.int k n)
def eqInt : List AV → List AV → Option Bool
  | [.v (.int k a)], [.v (.int k' b)] => if k = k' then some (a == b) else none
  | _, _ => none
def eqBool : List AV → List AV → Option Bool
  | [.v (.bool a)], [.v (.bool b)] => some (a == b)
  | _, _ => none
def eqStr : List AV → List AV → Option Bool
  | [.v (.string a)], [.v (.string b)] => some (a.toList == b.toList)
  | _, _ => none
def partOf (xs : List AV) (off n : Nat) : List AV := (xs.drop off).take n
def eqItemsA (rec : List AV → List AV → Option Bool) (c : Nat) (xs ys : List AV) : List Nat → Option Bool
  | [] => some true
  | i :: is => match rec (partOf xs (i * c) c) (partOf ys (i * c) c), eqItemsA rec c xs ys is with
    | some b, some r => some (b && r)
    | _, _ => none
def eqFieldsA (P : Program) (rec : TypeId → List AV → List AV → Option Bool) (xs ys : List AV) : List Field → Option Bool
  | [] => some true
  | f :: fs => if f.name = "_" then none else match rec f.type (partOf xs f.offset (P.cellsOf f.type)) (partOf ys f.offset (P.cellsOf f.type)), eqFieldsA P rec xs ys fs with
    | some b, some r => some (b && r)
    | _, _ => none
def eqT (P : Program) : Nat → TypeId → List AV → List AV → Option Bool
  | 0, _, _, _ => none
  | d + 1, t, xs, ys => match P.underlying t with
    | some (.int _) => eqInt xs ys
    | some .bool => eqBool xs ys
    | some .string => eqStr xs ys
    | some (.array n e) => if P.cellsOf e = 0 then none else eqItemsA (eqT P d e) (P.cellsOf e) xs ys (List.range n)
    | some (.struct fs) => if P.stoodInHeld t = true then none else eqFieldsA P (eqT P d) xs ys fs.toList
    | _ => none
def eqA (P : Program) (t : TypeId) (x y : AV) : Option Bool :=
  match P.underlying t, x, y with
  | some .bool, .v (.bool a), .v (.bool b) => some (a == b)
  | some (.pointer _), .ptr _ _, .v (.pointer none) => some false
  | some (.pointer _), .v (.pointer none), .ptr _ _ => some false
  | some (.pointer _), .v (.pointer none), .v (.pointer none) => some true
  | some (.interface _), .iface _ _, .v .nilIface => some false
  | some (.interface _), .v .nilIface, .v .nilIface => some true
  | some (.func _ _ _), .func _ _ _, .v .nilFunc => some false
  | some (.func _ _ _), .v .nilFunc, .v .nilFunc => some true
  | some (.slice _), .v (.slice none 0 0), .v (.slice none 0 0) => some true
  | some _, .agg xs, .agg ys => if isAggT P t = true ∧ P.eqGuardType P.depth t = false then eqT P 9 t xs ys else none
  | _, _, _ => none
def ile : Int → Int → Bool
  | .ofNat a, .ofNat b => Nat.ble a b
  | .ofNat _, .negSucc _ => false
  | .negSucc _, .ofNat _ => true
  | .negSucc a, .negSucc b => Nat.ble b a
def ilt : Int → Int → Bool
  | .ofNat a, .ofNat b => Nat.ble (a + 1) b
  | .ofNat _, .negSucc _ => false
  | .negSucc _, .ofNat _ => true
  | .negSucc a, .negSucc b => Nat.ble (b + 1) a
theorem ile_eq (a b : Int) : ile a b = decide (a ≤ b) := by
  rw [Bool.eq_iff_iff, decide_eq_true_eq]
  cases a <;> cases b <;> simp [ile, Nat.ble_eq] <;> omega
theorem ilt_eq (a b : Int) : ilt a b = decide (a < b) := by
  rw [Bool.eq_iff_iff, decide_eq_true_eq]
  cases a <;> cases b <;> simp [ilt, Nat.ble_eq] <;> omega
def intBin (op : BinOp) (k : IntKind) (a b : Int) : Option (Bool × AV) :=
  match op with
  | .add => some (true, intV k (k.wrap (a + b)))
  | .sub => some (true, intV k (k.wrap (a - b)))
  | .mul => some (true, intV k (k.wrap (a * b)))
  | .quo => some (decide (b ≠ 0), intV k (k.wrap (a.tdiv b)))
  | .rem => some (decide (b ≠ 0), intV k (a.tmod b))
  | .and => some (true, intV k (k.wrap (BitVec.ofInt k.bits a &&& BitVec.ofInt k.bits b).toNat))
  | .or => some (true, intV k (k.wrap (BitVec.ofInt k.bits a ||| BitVec.ofInt k.bits b).toNat))
  | .xor => some (true, intV k (k.wrap (BitVec.ofInt k.bits a ^^^ BitVec.ofInt k.bits b).toNat))
  | .andNot => some (true, intV k (k.wrap (BitVec.ofInt k.bits a &&& ~~~BitVec.ofInt k.bits b).toNat))
  | .eql => some (true, boolV (a == b))
  | .neq => some (true, boolV (a != b))
  | .lss => some (true, boolV (ilt a b))
  | .leq => some (true, boolV (ile a b))
  | .gtr => some (true, boolV (ilt b a))
  | .geq => some (true, boolV (ile b a))
  | _ => none
def strBin (op : BinOp) (a b : ByteArray) : Option (Bool × AV) :=
  match op with
  | .add => some (Nat.ble (a.size + b.size) 9223372036854775807, .v (.string (a ++ b)))
  | .eql => some (true, boolV (a.toList == b.toList))
  | .neq => some (true, boolV (!(a.toList == b.toList)))
  | .lss => some (true, boolV (Op.bytesLess a.toList b.toList))
  | .leq => some (true, boolV (Op.bytesLess a.toList b.toList || a.toList == b.toList))
  | .gtr => some (true, boolV (!(Op.bytesLess a.toList b.toList || a.toList == b.toList)))
  | .geq => some (true, boolV (!(Op.bytesLess a.toList b.toList)))
  | _ => none
def binA (P : Program) (op : BinOp) (t : TypeId) (x y : AV) : Option (Bool × AV) :=
  match op, x, y with
  | .shl, .v (.int k a), .v (.int _ b) => some (decide (0 ≤ b), intV k (k.wrap (a * 2 ^ (min b.toNat k.bits))))
  | .shr, .v (.int k a), .v (.int _ b) => some (decide (0 ≤ b), intV k (a.fdiv (2 ^ (min b.toNat k.bits))))
  | op, .v (.int k a), .v (.int k' b) => if k = k' then intBin op k a b else none
  | op, .v (.string a), .v (.string b) => strBin op a b
  | .eql, x, y => (eqA P t x y).map fun b => (true, boolV b)
  | .neq, x, y => (eqA P t x y).map fun b => (true, boolV (!b))
  | _, _, _ => none
def unA (op : UnOp) (x : AV) : Option AV :=
  match op, x with
  | .neg, .v (.int k n) => some (intV k (k.wrap (0 - n)))
  | .xor, .v (.int k n) => some (intV k (k.wrap (BitVec.ofInt k.bits (if k.signed then -1 else k.max) ^^^ BitVec.ofInt k.bits n).toNat))
  | .not, .v (.bool b) => some (boolV (!b))
  | _, _ => none
def boundsA (len : Nat) (lo hi : Option AV) : Option (Bool × Nat × Nat) :=
  match lo, hi with
  | none, none => some (true, 0, len)
  | some (.v (.int _ l)), none => some (decide (0 ≤ l) && decide (l ≤ len), l.toNat, len)
  | none, some (.v (.int _ h)) => some (decide (0 ≤ h) && decide (h ≤ len), 0, h.toNat)
  | some (.v (.int _ l)), some (.v (.int _ h)) => some (decide (0 ≤ h) && decide (h ≤ len) && (decide (0 ≤ l) && decide (l ≤ h)), l.toNat, h.toNat)
  | _, _ => none
def sliceA (P : Program) (t : TypeId) (x : AV) (lo hi : Option AV) (lk : Nat → AObj) : Option (Bool × AV) :=
  match P.underlying t, x with
  | some .string, .v (.string s) => (boundsA s.size lo hi).map fun (b, l, h) => (b, .v (.string (s.extract l h)))
  | some (.array n e), .ptr i off => if P.cellsOf e = 1 then (boundsA n lo hi).map fun (b, l, h) => (b, .aref i (off + l) (h - l)) else none
  | some (.slice e), .wref i => if rowSz lk i = some (P.cellsOf e) ∧ P.cellsOf e ≠ 0 then (match lo, hi with
      | none, none => some (true, .wref i)
      | lo, hi => match lenA lk (.wref i) with
        | some n => (boundsA n lo hi).map fun (b, l, h) => (b, .sref i l (h - l))
        | none => none) else none
  | some (.slice e), .sref i off n => if rowSz lk i = some (P.cellsOf e) ∧ P.cellsOf e ≠ 0 then (boundsA n lo hi).map fun (b, l, h) => (b, .sref i (off + l) (h - l)) else none
  | some (.slice e), .aref i off n => if P.cellsOf e = 1 then (boundsA n lo hi).map fun (b, l, h) => (b, .aref i (off + l) (h - l)) else none
  | some (.slice e), .sl sz es => if sz ≠ P.cellsOf e ∨ P.cellsOf e = 0 then none else (boundsA es.length lo hi).map fun (b, l, h) => (b, .sl sz ((es.take h).drop l))
  | some (.slice e), .v (.slice none 0 0) => if P.cellsOf e = 0 then none else (boundsA 0 lo hi).map fun (b, _, _) => (b, .v (.slice none 0 0))
  | _, _ => none
abbrev OpOut := Option (Bool × AV × List (Nat × AObj))
def only (x : AV) : OpOut := some (true, x, [])
def askd (r : Option (Bool × AV)) : OpOut := r.map fun (b, x) => (b, x, [])
def convA (P : Program) (src dst : TypeId) (x : AV) (lk : Nat → AObj) (nx : Nat) : OpOut :=
  match P.underlying src, P.underlying dst, x with
  | some _, some (.int k), .v (.int _ n) => only (intV k (k.wrap n))
  | some _, some .string, .v (.string s) => only (.v (.string s))
  | some _, some (.slice e), .v (.string s) =>
    match P.underlying e with
    | some (.int .u8) => some (true, .wref nx, [(nx, .row 1 (s.data.toList.map fun b => [.v (.int .u8 b.toNat)]))])
    | _ => none
  | some (.slice e), some .string, x =>
    match P.underlying e, elemsIn lk 1 x with
    | some (.int .u8), some (b, es) => some (b && es.all isByte, .v (.string ⟨(es.map byteOf).toArray⟩), [])
    | _, _ => none
  | _, _, _ => none
inductive Place where
  | cells (id off : Nat) (cs : List AV)
  | elem (id i off sz : Nat) (es : List (List AV)) (may : Bool)
  | data (e : List AV)
  | ints (id off : Nat) (k : IntKind) (ds : List Int)
def intsC (k : IntKind) (ds : List Int) : List AV := ds.map fun n => .v (.int k n)
def placeA (lk : Nat → AObj) : AV → Option Place
  | .ptr i off => match lk i with
    | .cells cs => some (.cells i off cs)
    | .ints k ds => some (.ints i off k ds)
    | _ => none
  | .eptr i n off => match lk i with
    | .row sz es => some (.elem i n off sz es true)
    | .frow sz es => some (.elem i n off sz es false)
    | _ => none
  | .dptr e => some (.data e)
  | _ => none
def loadA (P : Program) (t : TypeId) (lk : Nat → AObj) (a : AV) : OpOut :=
  match placeA lk a with
  | some (.cells _ off cs) => askd (loadC P t ((leafs P 9 t).map LK.raw) cs off)
  | some (.elem _ i off _ es _) => (loadC P t (leafs P 9 t) (es.getD i []) off).map fun (b, x) => (decide (i < es.length) && b, x, [])
  | some (.data e) => askd (loadC P t (leafs P 9 t) e 0)
  | some (.ints _ off k ds) => askd (loadC P t ((leafs P 9 t).map LK.raw) (intsC k ds) off)
  | none => none
def storeA (P : Program) (t : TypeId) (lk : Nat → AObj) (a x : AV) : OpOut :=
  match placeA lk a with
  | some (.cells i off cs) =>
    if x.cells.length = P.cellsOf t ∧ P.cellsOf t ≠ 0 ∧ oneL x.cells = true then some (decide (off + P.cellsOf t ≤ cs.length), .junk, [(i, .cells (setL cs off x.cells))]) else none
  | some (.elem i n off sz es true) =>
    let xs := frzL lk (leafs P 9 t) x.cells
    if xs.length = P.cellsOf t ∧ P.cellsOf t ≠ 0 ∧ off + P.cellsOf t ≤ sz ∧ pureL xs = true ∧ oneL x.cells = true ∧ hasN (x.cells.flatMap (ownIds lk)) i = false then
      some (decide (n < es.length), .junk, (x.cells.flatMap (ownIds lk)).map (fun j => (j, frzObj (lk j))) ++ [(i, .row sz (es.set n (if off = 0 ∧ xs.length = sz then xs else setL (es.getD n []) off xs)))])
    else none
  | some (.ints i off k ds) => match x with
    | .v (.int k' n) => if k = k' ∧ P.cellsOf t = 1 then some (decide (off + 1 ≤ ds.length), .junk, [(i, .ints k (ds.set off n))]) else none
    | x => if x.cells.length = P.cellsOf t ∧ P.cellsOf t ≠ 0 ∧ oneL x.cells = true then (if off = 0 then some (decide (ds.length = P.cellsOf t), .junk, [(i, .cells x.cells)]) else some (decide (off + P.cellsOf t ≤ (intsC k ds).length), .junk, [(i, .cells (setL (intsC k ds) off x.cells))])) else none
  | _ => none
def indexA (P : Program) (t : TypeId) (x : AV) (i : Int) (lk : Nat → AObj) : OpOut :=
  match P.underlying t, x with
  | some (.array n e), .ptr id off => if P.cellsOf e = 0 then none else some (decide (0 ≤ i) && decide (i < n), .ptr id (off + i.toNat * P.cellsOf e), [])
  | some (.array n e), .eptr id m off => if P.cellsOf e = 0 then none else some (decide (0 ≤ i) && decide (i < n), .eptr id m (off + i.toNat * P.cellsOf e), [])
  | some (.array n e), .dptr cs => if P.cellsOf e = 0 then none else some (decide (0 ≤ i) && decide (i < n), .dptr (cs.drop (i.toNat * P.cellsOf e)), [])
  | some (.slice e), .wref id => if rowSz lk id = some (P.cellsOf e) ∧ P.cellsOf e ≠ 0 then (lenA lk (.wref id)).map fun (n : Nat) => (decide (0 ≤ i) && decide (i < n), .eptr id i.toNat 0, []) else none
  | some (.slice e), .sref id off n => if rowSz lk id = some (P.cellsOf e) ∧ P.cellsOf e ≠ 0 then some (decide (0 ≤ i) && decide (i < n), .eptr id (off + i.toNat) 0, []) else none
  | some (.slice e), .aref id off n => if P.cellsOf e = 1 then some (decide (0 ≤ i) && decide (i < n), .ptr id (off + i.toNat), []) else none
  | some (.slice e), .sl sz es => if sz = P.cellsOf e ∧ P.cellsOf e ≠ 0 then some (decide (0 ≤ i) && decide (i < es.length), .dptr (es.getD i.toNat []), []) else none
  | _, _ => none
def bldZ : List AV → Bool
  | [.v (.pointer none), .v (.slice none 0 0)] => true
  | _ => false
def nilPair : AV → AV → Bool
  | .v .nilIface, .v .nilIface => true
  | _, _ => false
def isK : Operand → Bool
  | .const _ => true
  | _ => false
def opA (P : Program) (ρ : Operand → AV) (lk : Nat → AObj) (nx : Nat) (o : Op) : OpOut :=
  match o with
  | .move x => only (ρ x)
  | .assign x => only (ρ x)
  | .pick c a b => match ρ c, ρ a, ρ b with
    | .v (.bool true), x, _ => only x
    | .v (.bool false), _, y => only y
    | _, _, _ => none
  | .alloc t => match zeroL P t with
    | some z => if bldZ z = true then some (true, .ptr nx 0, [(nx, .bld t none)]) else if oneL z = true then some (true, .ptr nx 0, [(nx, .cells z)]) else none
    | none => none
  | .box t x => if (ρ x).cells.length = P.cellsOf t ∧ oneL (ρ x).cells = true then some (true, .ptr nx 0, [(nx, .cells (ρ x).cells)]) else none
  | .build t parts => match P.underlying t, zeroL P t with
    | some (.struct fs), some z => if (fs.toList.all fun f => (P.info? f.type).isSome) = false then none else (fillL (fun i => (fs[i]?).map fun f => (f.offset, P.cellsOf f.type)) z (parts.toList.map fun p => (p.1, ρ p.2))).map fun cs => (true, .agg cs, [])
    | some (.array _ e), some z => if P.cellsOf e = 0 then none else (fillL (fun i => some (i * P.cellsOf e, P.cellsOf e)) z (parts.toList.map fun p => (p.1, ρ p.2))).map fun cs => (true, .agg cs, [])
    | _, _ => none
  | .buildSlice t len parts => match P.underlying t with
    | some (.slice e) => match zeroL P e with
      | some z =>
        let es := parts.toList.foldl (fun es p => es.set p.1 (frzL lk (leafs P 9 e) (ρ p.2).cells)) (List.replicate len z)
        if z.length = P.cellsOf e ∧ P.cellsOf e ≠ 0 ∧ len * P.cellsOf e ≤ 2 ^ 24 ∧ (parts.toList.all fun p => decide (p.1 < len) && decide ((ρ p.2).cells.length = P.cellsOf e) && oneL (ρ p.2).cells) = true ∧ (es.all pureL) = true ∧ (es.all oneL) = true then
          some (true, .wref nx, (parts.toList.flatMap fun p => ((ρ p.2).cells.flatMap (ownIds lk)).map (fun j => (j, frzObj (lk j)))) ++ [(nx, .row (P.cellsOf e) es)])
        else none
      | none => none
    | _ => none
  | .load t a => loadA P t lk (ρ a)
  | .store t a x => storeA P t lk (ρ a) (ρ x)
  | .nilCheck x => match ρ x with
    | .ptr i off => only (.ptr i off)
    | .eptr i n off => only (.eptr i n off)
    | .dptr cs => only (.dptr cs)
    | .func (.func f) a b => only (.func (.func f) a b)
    | .yld i => only (.yld i)
    | _ => none
  | .binOp op t x y _ => if nilPair (ρ x) (ρ y) && !(isK x || isK y) then none else askd (binA P op t (ρ x) (ρ y))
  | .unOp op _ x => (unA op (ρ x)).map fun x => (true, x, [])
  | .convert s d x => convA P s d (ρ x) lk nx
  | .sliceToArrayPointer t x => match P.underlying t, ρ x with
    | some (.array n _), .aref i off m => some (decide (n ≤ m) && decide (0 < m), .ptr i off, [])
    | _, _ => none
  | .makeInterface t x => match P.underlying t with
    | some (.interface _) => none
    | some _ => only (.iface t (ρ x))
    | none => none
  | .makeFunc fn a b => only (.func fn (a.toList.map ρ) (b.toList.map ρ))
  | .makeSlice t l c => match P.underlying t, ρ l, ρ c with
    | some (.slice e), .v (.int _ l), .v (.int _ c) => match zeroL P e with
      | some z => if z.length = P.cellsOf e ∧ oneL z = true then some (decide (0 ≤ l) && (decide (l ≤ c) && decide (c * (P.bytesOf e + 1 : Int) ≤ 2 ^ 46)), .wref nx, [(nx, .row (P.cellsOf e) (List.replicate l.toNat z))]) else none
      | none => none
    | _, _, _ => none
  | .slice t x lo hi mx => match mx with
    | none => askd (sliceA P t (ρ x) (lo.map ρ) (hi.map ρ) lk)
    | some _ => none
  | .fieldAddr s x f => match P.underlying s with
    | some (.struct fs) => match fs[f]? with
      | some fd => if P.cellsOf fd.type = 0 then none else match ρ x with
        | .ptr i off => only (.ptr i (off + fd.offset))
        | .eptr i n off => only (.eptr i n (off + fd.offset))
        | .dptr cs => only (.dptr (cs.drop fd.offset))
        | _ => none
      | none => none
    | _ => none
  | .field t x f => match P.underlying t with
    | some (.struct fs) => match fs[f]?, ρ x with
      | some fd, .agg cs => askd (loadC P fd.type ((leafs P 9 fd.type).map LK.raw) cs fd.offset)
      | _, _ => none
    | _ => none
  | .indexAddr t x ix => match ρ ix with
    | .v (.int _ i) => indexA P t (ρ x) i lk
    | _ => none
  | .index t x ix => match ρ ix with
    | .v (.int _ i) => match P.underlying t, ρ x with
      | some (.array n e), .agg cs => (loadC P e ((leafs P 9 e).map LK.raw) cs (i.toNat * P.cellsOf e)).map fun (b, x) => (decide (0 ≤ i) && (decide (i < n) && b), x, [])
      | some .string, .v (.string s) => some (decide (0 ≤ i) && decide (i < s.size), .v (.int .u8 (s.data.toList.getD i.toNat 0).toNat), [])
      | _, _ => none
    | _ => none
  | .typeAssert x _ asserted ok => match P.underlying asserted, ρ x with
    | some (.interface _), _ => none
    | some _, .iface t y =>
      if t = asserted then only (if ok then .tuple [y, boolV true] else y)
      else none
    | _, _ => none
  | .extract x i => match ρ x with
    | .tuple vs => (vs[i]?).map fun x => (true, x, [])
    | _ => none
  | _ => none
def foldI (better : Int → Int → Bool) (k : IntKind) : Int → List AV → Option Int
  | m, [] => some m
  | m, .v (.int k' b) :: rest => if k = k' then foldI better k (bif better b m then b else m) rest else none
  | _, _ => none
def plainSrc : TypeDesc → Bool
  | .slice _ => true
  | .string => true
  | _ => false
def copyA (P : Program) (ts : Array TypeId) (lk : Nat → AObj) (d s : AV) : OpOut :=
  match d with
  | .wref i => match lk i, (ts[0]?).bind P.underlying with
    | .row sz es, some (.slice e) => if sz ≠ P.cellsOf e ∨ sz = 0 then none else match elemsIn lk sz s with
      | some (b, ys) => some (b, intV .i64 (min ys.length es.length : Nat), [(i, .row sz (ys.take (min ys.length es.length) ++ es.drop (min ys.length es.length)))])
      | _ => none
    | _, _ => none
  | _ => none
def builtinA (P : Program) (b : Builtin) (ts : Array TypeId) (args : List AV) (lk : Nat → AObj) (nx : Nat) : OpOut :=
  match b, args with
  | .len, [x] => match (ts[0]?).bind P.underlying, x with
    | some .string, .v (.string s) => only (intV .i64 s.size)
    | some (.array n _), _ => only (intV .i64 n)
    | some (.slice _), x => (lenA lk x).map fun (n : Nat) => (true, intV .i64 n, [])
    | _, _ => none
  | .append, [s, x] => match (ts[0]?).bind P.underlying, (ts[1]?).bind P.underlying with
    | some (.slice e), some xt =>
      if plainSrc xt = false ∨ zeroOk P e = false then none else
      match elemsIn lk (P.cellsOf e) x with
      | some (b, zs) =>
        match s with
        | .v (.slice none 0 0) => some (b && decide (zs.length * (P.bytesOf e + 1) ≤ 2 ^ 46), .wref nx, [(nx, .row (P.cellsOf e) zs)])
        | .wref i => match lk i with
          | .row sz es => if sz ≠ P.cellsOf e then none else some (b && decide ((es.length + zs.length) * (P.bytesOf e + 1) ≤ 2 ^ 46), .wref nx, [(i, .dead), (nx, .row sz (es ++ zs))])
          | _ => none
        | .sref i off n => match lk i with
          | .row sz es => if sz ≠ P.cellsOf e then none else some (b && decide ((n + zs.length) * (P.bytesOf e + 1) ≤ 2 ^ 46), .wref nx, [(i, .dead), (nx, .row sz ((es.drop off).take n ++ zs))])
          | _ => none
        | _ => none
      | none => none
    | _, _ => none
  | .copy, [d, s] => copyA P ts lk d s
  | .min, .v (.int k a) :: rest => (foldI (fun b m => decide (b < m)) k a rest).map fun m => (true, intV k m, [])
  | .max, .v (.int k a) :: rest => (foldI (fun b m => decide (b > m)) k a rest).map fun m => (true, intV k m, [])
  | _, _ => none
end Go.Abs
end
section
namespace Go.Abs
structure Slot where
  b : Nat
  o : Nat
  sz : Nat
  n : Nat
  room : Nat
  real : Bool
structure Emb where
  at_ : Nat → Option Slot
  F : Nat → Prop
instance : CoeFun Emb (fun _ => Nat → Option Slot) := ⟨Emb.at_⟩
section
variable (φ : Emb) (L : Nat → Prop) (w : World)
mutual
def VR : AV → Value → Prop
  | .v x, u => u = x
  | .junk, _ => True
  | .agg cs, u => ∃ us : Array Value, u = .agg us ∧ VRs cs us.toList
  | .tuple vs, u => ∃ us : Array Value, u = .tuple us ∧ VRs vs us.toList
  | .iface t x, u => ∃ y, u = .iface t y ∧ VR x y
  | .func fn a b, u => ∃ a' b' : Array Value, u = .func fn a' b' ∧ VRs a a'.toList ∧ VRs b b'.toList
  | .ptr i off, u => ∃ s, φ i = some s ∧ s.real = true ∧ u = .pointer (some ⟨s.b, s.o + off, none⟩)
  | .eptr i n off, u => ∃ s, φ i = some s ∧ s.real = true ∧ u = .pointer (some ⟨s.b, s.o + n * s.sz + off, none⟩)
  | .dptr e, u => ∃ b o : Nat, u = .pointer (some ⟨b, o, none⟩) ∧ ¬ L b ∧ b < w.heap.size ∧ pureL e = true ∧ VRc e b o
  | .sl sz es, u => ∃ a cap, u = .slice a es.length cap ∧ es.length ≤ cap ∧ (es = [] ∨ ∃ b o : Nat, a = some ⟨b, o, none⟩ ∧ ¬ L b ∧ b < w.heap.size ∧ VRe sz es b o)
  | .wref i, u => ∃ s, φ i = some s ∧ ((s.real = true ∧ ∃ cap, u = .slice (some ⟨s.b, s.o, none⟩) s.n cap ∧ s.n ≤ cap ∧ s.o + cap * s.sz ≤ s.room) ∨ (s.n = 0 ∧ ∃ a, u = .slice a 0 0))
  | .sref i off n, u => ∃ s, φ i = some s ∧ off + n ≤ s.n ∧ ((s.real = true ∧ ∃ cap, u = .slice (some ⟨s.b, s.o + off * s.sz, none⟩) n cap ∧ n ≤ cap ∧ s.o + off * s.sz + cap * s.sz ≤ s.room) ∨ (n = 0 ∧ ∃ a, u = .slice a 0 0))
  | .aref i off n, u => ∃ s, φ i = some s ∧ s.real = true ∧ ((∃ cap, u = .slice (some ⟨s.b, s.o + off, none⟩) n cap ∧ n ≤ cap) ∨ (n = 0 ∧ ∃ a, u = .slice a 0 0))
  | .yld i, u => ∃ s, φ i = some s ∧ s.real = true ∧ u = .func (.yield s.b) #[] #[]
def VRs : List AV → List Value → Prop
  | [], us => us = []
  | c :: cs, us => ∃ x xs, us = x :: xs ∧ VR c x ∧ VRs cs xs
def VRc : List AV → Nat → Nat → Prop
  | [], _, _ => True
  | c :: cs, b, o => (∃ x, w.cell? ⟨b, o, none⟩ = some x ∧ oneV x = true ∧ VR c x) ∧ VRc cs b (o + 1)
def VRe (sz : Nat) : List (List AV) → Nat → Nat → Prop
  | [], _, _ => True
  | e :: es, b, o => e.length = sz ∧ pureL e = true ∧ VRc e b o ∧ VRe sz es b (o + sz)
end
end
structure Keep (L : Nat → Prop) (w w' : World) : Prop where
  os : w'.os = w.os
  tape : w'.tape = w.tape
  output : w'.output = w.output
  size : w.heap.size ≤ w'.heap.size
  block : ∀ b, b < w.heap.size → ¬ L b → w'.heap[b]? = w.heap[b]?
theorem Keep.refl (L : Nat → Prop) (w : World) : Keep L w w := ⟨rfl, rfl, rfl, Nat.le_refl _, fun _ _ _ => rfl⟩
theorem Keep.trans {L L' : Nat → Prop} {a b c : World} (h : Keep L a b) (h' : Keep L' b c) (hl : ∀ i, L' i → L i ∨ a.heap.size ≤ i) : Keep L a c :=
  ⟨h'.os.trans h.os, h'.tape.trans h.tape, h'.output.trans h.output, Nat.le_trans h.size h'.size, fun i hi hn =>
    (h'.block i (Nat.lt_of_lt_of_le hi h.size) (fun hh => (hl i hh).elim hn (fun h2 => absurd hi (by omega)))).trans (h.block i hi hn)⟩
theorem Keep.mono {L L' : Nat → Prop} {w w' : World} (h : Keep L w w') (hl : ∀ i, i < w.heap.size → L i → L' i) : Keep L' w w' :=
  ⟨h.os, h.tape, h.output, h.size, fun i hi hn => h.block i hi fun hh => hn (hl i hi hh)⟩
theorem Keep.drew (L : Nat → Prop) (w : World) : Keep L w w.drew := ⟨rfl, rfl, rfl, Nat.le_refl _, fun _ _ _ => rfl⟩
theorem Keep.alloc (L : Nat → Prop) (w : World) (o : Obj) : Keep L w (w.alloc o) :=
  ⟨rfl, rfl, rfl, by simp, fun k hk _ => RowKit.Below.heap_alloc _ _ _ (by omega)⟩
theorem Keep.setCell {L : Nat → Prop} {w : World} {a : Addr} (h : L a.block) (u : Value) : Keep L w (w.setCell a u) :=
  ⟨rfl, rfl, rfl, by simp [World.setCell], fun k _ hn => RowKit.Below.heap_setCell _ _ _ _ (fun e => hn (e ▸ h))⟩
def Emb.le (φ φ' : Emb) : Prop := (∀ i s, φ i = some s → φ' i = some s) ∧ φ'.F = φ.F
theorem Emb.le_refl (φ : Emb) : φ.le φ := ⟨fun _ _ h => h, rfl⟩
theorem Emb.le.trans {φ φ' φ'' : Emb} (h : φ.le φ') (h' : φ'.le φ'') : φ.le φ'' := ⟨fun i s e => h'.1 i s (h.1 i s e), h'.2.trans h.2⟩
theorem cell_of_block {w w' : World} {b o : Nat} (h : w'.heap[b]? = w.heap[b]?) : w'.cell? ⟨b, o, none⟩ = w.cell? ⟨b, o, none⟩ := by
  simp only [World.cell?, h]
section mono
variable {φ φ' : Emb} {L L' : Nat → Prop} {w w' : World}
mutual
theorem VR.mono' (hφ : ∀ i s, φ i = some s → φ' i = some s) (hk : Keep L w w') (hl : ∀ i, L' i → L i ∨ w.heap.size ≤ i) : ∀ (x : AV) (u : Value), VR φ L w x u → VR φ' L' w' x u
  | .v _, _, h => h
  | .junk, _, _ => trivial
  | .agg cs, u, h => by
    simp only [VR] at h ⊢
    obtain ⟨us, e, h⟩ := h
    exact ⟨us, e, VRs.mono' hφ hk hl cs _ h⟩
  | .tuple cs, u, h => by
    simp only [VR] at h ⊢
    obtain ⟨us, e, h⟩ := h
    exact ⟨us, e, VRs.mono' hφ hk hl cs _ h⟩
  | .iface t x, u, h => by
    simp only [VR] at h ⊢
    obtain ⟨y, e, h⟩ := h
    exact ⟨y, e, VR.mono' hφ hk hl x _ h⟩
  | .func fn a b, u, h => by
    simp only [VR] at h ⊢
    obtain ⟨a', b', e, h1, h2⟩ := h
    exact ⟨a', b', e, VRs.mono' hφ hk hl a _ h1, VRs.mono' hφ hk hl b _ h2⟩
  | .ptr i off, u, h => by
    simp only [VR] at h ⊢
    obtain ⟨s, e, h⟩ := h
    exact ⟨s, hφ _ _ e, h⟩
  | .eptr i n off, u, h => by
    simp only [VR] at h ⊢
    obtain ⟨s, e, h⟩ := h
    exact ⟨s, hφ _ _ e, h⟩
  | .wref i, u, h => by
    simp only [VR] at h ⊢
    obtain ⟨s, e, h⟩ := h
    exact ⟨s, hφ _ _ e, h⟩
  | .sref i off n, u, h => by
    simp only [VR] at h ⊢
    obtain ⟨s, e, h⟩ := h
    exact ⟨s, hφ _ _ e, h⟩
  | .aref i off n, u, h => by
    simp only [VR] at h ⊢
    obtain ⟨s, e, h⟩ := h
    exact ⟨s, hφ _ _ e, h⟩
  | .yld i, u, h => by
    simp only [VR] at h ⊢
    obtain ⟨s, e, h⟩ := h
    exact ⟨s, hφ _ _ e, h⟩
  | .dptr e, u, h => by
    simp only [VR] at h ⊢
    obtain ⟨b, o, e1, hL, hb, hp, h⟩ := h
    exact ⟨b, o, e1, fun hh => (hl b hh).elim hL (fun h2 => absurd hb (by omega)), Nat.lt_of_lt_of_le hb hk.size, hp, VRc.mono' hφ hk hl e b o (hk.block b hb hL) h⟩
  | .sl sz es, u, h => by
    simp only [VR] at h ⊢
    obtain ⟨a, cap, e1, e2, h⟩ := h
    refine ⟨a, cap, e1, e2, ?_⟩
    rcases h with h | ⟨b, o, ea, hL, hb, h⟩
    · exact .inl h
    · exact .inr ⟨b, o, ea, fun hh => (hl b hh).elim hL (fun h2 => absurd hb (by omega)), Nat.lt_of_lt_of_le hb hk.size, VRe.mono' hφ hk hl sz es b o (hk.block b hb hL) h⟩
theorem VRs.mono' (hφ : ∀ i s, φ i = some s → φ' i = some s) (hk : Keep L w w') (hl : ∀ i, L' i → L i ∨ w.heap.size ≤ i) : ∀ (cs : List AV) (us : List Value), VRs φ L w cs us → VRs φ' L' w' cs us
  | [], _, h => h
  | c :: cs, us, h => by
    simp only [VRs] at h ⊢
    obtain ⟨x, xs, e, h1, h2⟩ := h
    exact ⟨x, xs, e, VR.mono' hφ hk hl c _ h1, VRs.mono' hφ hk hl cs _ h2⟩
theorem VRc.mono' (hφ : ∀ i s, φ i = some s → φ' i = some s) (hk : Keep L w w') (hl : ∀ i, L' i → L i ∨ w.heap.size ≤ i) : ∀ (cs : List AV) (b o : Nat), w'.heap[b]? = w.heap[b]? → VRc φ L w cs b o → VRc φ' L' w' cs b o
  | [], _, _, _, _ => trivial
  | c :: cs, b, o, hb, h => by
    simp only [VRc] at h ⊢
    obtain ⟨⟨x, hx, h0, h1⟩, h2⟩ := h
    exact ⟨⟨x, by rw [cell_of_block hb]; exact hx, h0, VR.mono' hφ hk hl c _ h1⟩, VRc.mono' hφ hk hl cs b (o + 1) hb h2⟩
theorem VRe.mono' (hφ : ∀ i s, φ i = some s → φ' i = some s) (hk : Keep L w w') (hl : ∀ i, L' i → L i ∨ w.heap.size ≤ i) (sz : Nat) : ∀ (es : List (List AV)) (b o : Nat), w'.heap[b]? = w.heap[b]? → VRe φ L w sz es b o → VRe φ' L' w' sz es b o
  | [], _, _, _, _ => trivial
  | e :: es, b, o, hb, h => by
    simp only [VRe] at h ⊢
    obtain ⟨h1, h2, h3, h4⟩ := h
    exact ⟨h1, h2, VRc.mono' hφ hk hl e b o hb h3, VRe.mono' hφ hk hl sz es b (o + sz) hb h4⟩
end
theorem VR.mono (hφ : φ.le φ') (hk : Keep L w w') (hl : ∀ i, L' i → L i ∨ w.heap.size ≤ i) (x : AV) (u : Value) : VR φ L w x u → VR φ' L' w' x u := VR.mono' hφ.1 hk hl x u
theorem VRs.mono (hφ : φ.le φ') (hk : Keep L w w') (hl : ∀ i, L' i → L i ∨ w.heap.size ≤ i) (cs : List AV) (us : List Value) : VRs φ L w cs us → VRs φ' L' w' cs us := VRs.mono' hφ.1 hk hl cs us
theorem VRc.mono (hφ : φ.le φ') (hk : Keep L w w') (hl : ∀ i, L' i → L i ∨ w.heap.size ≤ i) (cs : List AV) (b o : Nat) : w'.heap[b]? = w.heap[b]? → VRc φ L w cs b o → VRc φ' L' w' cs b o := VRc.mono' hφ.1 hk hl cs b o
theorem VRe.mono (hφ : φ.le φ') (hk : Keep L w w') (hl : ∀ i, L' i → L i ∨ w.heap.size ≤ i) (sz : Nat) (es : List (List AV)) (b o : Nat) : w'.heap[b]? = w.heap[b]? → VRe φ L w sz es b o → VRe φ' L' w' sz es b o := VRe.mono' hφ.1 hk hl sz es b o
end mono
end Go.Abs
end
section
namespace Go.Abs
section facts
variable {φ : Emb} {L : Nat → Prop} {w : World}
theorem VR_junk (u : Value) : VR φ L w .junk u := by simp [VR]
theorem VRs_length : ∀ {cs : List AV} {us : List Value}, VRs φ L w cs us → us.length = cs.length
  | [], us, h => by simp only [VRs] at h; simp [h]
  | c :: cs, us, h => by
    simp only [VRs] at h
    obtain ⟨x, xs, rfl, _, h2⟩ := h
    simp [VRs_length h2]
theorem VRs_getD : ∀ {cs : List AV} {us : List Value}, VRs φ L w cs us → ∀ (i : Nat) (d : Value), VR φ L w (cs.getD i .junk) (us.getD i d)
  | [], us, h, i, d => by simp only [VRs] at h; subst h; simpa using VR_junk d
  | c :: cs, us, h, i, d => by
    simp only [VRs] at h
    obtain ⟨x, xs, rfl, h1, h2⟩ := h
    cases i with
    | zero => simpa using h1
    | succ i => simpa using VRs_getD h2 i d
theorem VRs_get? {cs : List AV} {us : List Value} (h : VRs φ L w cs us) {i : Nat} {c : AV} (hc : cs[i]? = some c) : ∃ u, us[i]? = some u ∧ VR φ L w c u := by
  have hl := VRs_length h
  have hi : i < cs.length := by
    rcases Nat.lt_or_ge i cs.length with h' | h'
    · exact h'
    · simp [List.getElem?_eq_none h'] at hc
  have hi' : i < us.length := by omega
  refine ⟨us[i], by simp [hi'], ?_⟩
  have := VRs_getD h i undef
  simpa [List.getD, hc, hi'] using this
theorem VRs_of : ∀ {cs : List AV} {us : List Value}, us.length = cs.length → (∀ (i : Nat) c u, cs[i]? = some c → us[i]? = some u → VR φ L w c u) → VRs φ L w cs us
  | [], us, hl, _ => by
    simp only [VRs]
    exact List.length_eq_zero_iff.1 (by simpa using hl)
  | c :: cs, us, hl, h => by
    cases us with
    | nil => simp at hl
    | cons x xs =>
      simp only [VRs]
      exact ⟨x, xs, rfl, h 0 c x (by simp) (by simp), VRs_of (by simpa using hl) fun i c' u' h1 h2 => h (i + 1) c' u' (by simpa using h1) (by simpa using h2)⟩
theorem VRs_append {cs ds : List AV} {us vs : List Value} (h : VRs φ L w cs us) (h' : VRs φ L w ds vs) : VRs φ L w (cs ++ ds) (us ++ vs) := by
  have l1 := VRs_length h
  have l2 := VRs_length h'
  refine VRs_of (by simp [l1, l2]) fun i c u hc hu => ?_
  rcases Nat.lt_or_ge i cs.length with hi | hi
  · rw [List.getElem?_append_left (by omega)] at hc hu
    obtain ⟨u', e, hv⟩ := VRs_get? h hc
    rw [hu] at e; cases e; exact hv
  · rw [List.getElem?_append_right (by omega)] at hc hu
    rw [l1] at hu
    obtain ⟨u', e, hv⟩ := VRs_get? h' hc
    rw [hu] at e; cases e; exact hv
theorem VRs_replicate (n : Nat) {c : AV} {u : Value} (h : VR φ L w c u) : VRs φ L w (List.replicate n c) (List.replicate n u) := by
  refine VRs_of (by simp) fun i c' u' h1 h2 => ?_
  simp only [List.getElem?_replicate] at h1 h2
  split at h1 <;> simp_all
theorem VRs_set {cs : List AV} {us : List Value} (h : VRs φ L w cs us) (i : Nat) {c : AV} {u : Value} (hc : VR φ L w c u) : VRs φ L w (cs.set i c) (us.set i u) := by
  have hl := VRs_length h
  refine VRs_of (by simp [hl]) fun j c' u' h1 h2 => ?_
  rw [List.getElem?_set] at h1 h2
  by_cases hij : i = j
  · subst hij
    simp only [if_true] at h1 h2
    split at h1
    · split at h2
      · simp at h1 h2; subst h1; subst h2; exact hc
      · simp at h2
    · simp at h1
  · simp only [hij, if_false] at h1 h2
    obtain ⟨u'', e, hv⟩ := VRs_get? h h1
    rw [h2] at e; cases e; exact hv
theorem VRc_iff : ∀ {cs : List AV} {b o : Nat}, VRc φ L w cs b o ↔ ∀ (i : Nat) c, cs[i]? = some c → ∃ x, w.cell? ⟨b, o + i, none⟩ = some x ∧ oneV x = true ∧ VR φ L w c x
  | [], b, o => by simp [VRc]
  | c :: cs, b, o => by
    simp only [VRc]
    rw [VRc_iff (cs := cs)]
    constructor
    · rintro ⟨h1, h2⟩ i c' hc'
      cases i with
      | zero => simp at hc'; subst hc'; simpa using h1
      | succ i =>
        have := h2 i c' (by simpa using hc')
        rw [show o + (i + 1) = o + 1 + i by omega]; exact this
    · intro h
      refine ⟨by simpa using h 0 c (by simp), fun i c' hc' => ?_⟩
      have := h (i + 1) c' (by simpa using hc')
      rw [show o + 1 + i = o + (i + 1) by omega]; exact this
theorem VRe_iff {sz : Nat} : ∀ {es : List (List AV)} {b o : Nat}, VRe φ L w sz es b o ↔ ∀ (i : Nat) e, es[i]? = some e → e.length = sz ∧ pureL e = true ∧ VRc φ L w e b (o + i * sz)
  | [], b, o => by simp [VRe]
  | e :: es, b, o => by
    simp only [VRe]
    rw [VRe_iff (es := es)]
    constructor
    · rintro ⟨h1, h2, h3, h4⟩ i e' he'
      cases i with
      | zero => simp at he'; subst he'; simpa using ⟨h1, h2, h3⟩
      | succ i =>
        have := h4 i e' (by simpa using he')
        rw [show o + (i + 1) * sz = o + sz + i * sz by rw [Nat.add_mul]; omega]; exact this
    · intro h
      have h0 := h 0 e (by simp)
      refine ⟨h0.1, h0.2.1, by simpa using h0.2.2, fun i e' he' => ?_⟩
      have := h (i + 1) e' (by simpa using he')
      rw [show o + sz + i * sz = o + (i + 1) * sz by rw [Nat.add_mul]; omega]; exact this
theorem VRc_drop {cs : List AV} {b o : Nat} (h : VRc φ L w cs b o) (k : Nat) : VRc φ L w (cs.drop k) b (o + k) := by
  rw [VRc_iff] at h ⊢
  intro i c hc
  have := h (k + i) c (by simpa using hc)
  rw [show o + k + i = o + (k + i) by omega]; exact this
theorem VRc_take {cs : List AV} {b o : Nat} (h : VRc φ L w cs b o) (k : Nat) : VRc φ L w (cs.take k) b o := by
  rw [VRc_iff] at h ⊢
  intro i c hc
  rw [List.getElem?_take] at hc
  split at hc
  · exact h i c hc
  · simp at hc
theorem VRc_append {cs ds : List AV} {b o : Nat} (h : VRc φ L w cs b o) (h' : VRc φ L w ds b (o + cs.length)) : VRc φ L w (cs ++ ds) b o := by
  rw [VRc_iff] at h h' ⊢
  intro i c hc
  rcases Nat.lt_or_ge i cs.length with hi | hi
  · rw [List.getElem?_append_left hi] at hc; exact h i c hc
  · rw [List.getElem?_append_right hi] at hc
    have := h' _ c hc
    rw [show o + i = o + cs.length + (i - cs.length) by omega]; exact this
theorem VRe_drop {sz : Nat} {es : List (List AV)} {b o : Nat} (h : VRe φ L w sz es b o) (k : Nat) : VRe φ L w sz (es.drop k) b (o + k * sz) := by
  rw [VRe_iff] at h ⊢
  intro i c hc
  have := h (k + i) c (by simpa using hc)
  rw [show o + k * sz + i * sz = o + (k + i) * sz by rw [Nat.add_mul]; omega]; exact this
theorem VRe_take {sz : Nat} {es : List (List AV)} {b o : Nat} (h : VRe φ L w sz es b o) (k : Nat) : VRe φ L w sz (es.take k) b o := by
  rw [VRe_iff] at h ⊢
  intro i c hc
  rw [List.getElem?_take] at hc
  split at hc
  · exact h i c hc
  · simp at hc
theorem VRe_append {sz : Nat} {es fs : List (List AV)} {b o : Nat} (h : VRe φ L w sz es b o) (h' : VRe φ L w sz fs b (o + es.length * sz)) : VRe φ L w sz (es ++ fs) b o := by
  rw [VRe_iff] at h h' ⊢
  intro i c hc
  rcases Nat.lt_or_ge i es.length with hi | hi
  · rw [List.getElem?_append_left hi] at hc; exact h i c hc
  · rw [List.getElem?_append_right hi] at hc
    have := h' _ c hc
    have e : o + i * sz = o + es.length * sz + (i - es.length) * sz := by
      rw [Nat.sub_mul]
      have : es.length * sz ≤ i * sz := Nat.mul_le_mul_right _ hi
      omega
    rw [e]; exact this
theorem pureL_getElem? : ∀ {cs : List AV}, pureL cs = true → ∀ {i : Nat} {c : AV}, cs[i]? = some c → pureA c = true
  | [], _, i, c, h => by simp at h
  | d :: cs, hp, i, c, h => by
    simp only [pureL, Bool.and_eq_true] at hp
    cases i with
    | zero => simp at h; subst h; exact hp.1
    | succ i => exact pureL_getElem? hp.2 (by simpa using h)
theorem oneL_getElem? : ∀ {cs : List AV}, oneL cs = true → ∀ {i : Nat} {c : AV}, cs[i]? = some c → oneA c = true
  | [], _, i, c, h => by simp at h
  | d :: cs, hp, i, c, h => by
    simp only [oneL, Bool.and_eq_true] at hp
    cases i with
    | zero => simp at h; subst h; exact hp.1
    | succ i => exact oneL_getElem? hp.2 (by simpa using h)
theorem oneV_of {c : AV} {u : Value} (h : VR φ L w c u) (h1 : oneA c = true) : oneV u = true := by
  cases c with
  | v x => simp only [VR] at h; subst h; simpa [oneA] using h1
  | junk => simp [oneA] at h1
  | agg cs => simp [oneA] at h1
  | tuple cs => simp [oneA] at h1
  | iface t x => simp only [VR] at h; obtain ⟨y, rfl, _⟩ := h; rfl
  | func f a b => simp only [VR] at h; obtain ⟨a', b', rfl, _⟩ := h; rfl
  | ptr i o => simp only [VR] at h; obtain ⟨s, _, _, rfl⟩ := h; rfl
  | eptr i n o => simp only [VR] at h; obtain ⟨s, _, _, rfl⟩ := h; rfl
  | dptr e => simp only [VR] at h; obtain ⟨b, o, rfl, _⟩ := h; rfl
  | sl sz es => simp only [VR] at h; obtain ⟨a, cap, rfl, _⟩ := h; rfl
  | wref i => simp only [VR] at h; obtain ⟨s, _, ⟨_, cap, rfl, _⟩ | ⟨_, a, rfl⟩⟩ := h <;> rfl
  | sref i o n => simp only [VR] at h; obtain ⟨s, _, _, ⟨_, cap, rfl, _⟩ | ⟨_, a, rfl⟩⟩ := h <;> rfl
  | aref i o n => simp only [VR] at h; obtain ⟨s, _, _, ⟨cap, rfl, _⟩ | ⟨_, a, rfl⟩⟩ := h <;> rfl
  | yld i => simp only [VR] at h; obtain ⟨s, _, _, rfl⟩ := h; rfl
theorem VR_cells {x : AV} {u : Value} (h : VR φ L w x u) (h1 : oneL x.cells = true) : VRs φ L w x.cells u.cells.toList ∧ ∀ v ∈ u.cells.toList, oneV v = true := by
  have key : VRs φ L w x.cells u.cells.toList := by
    cases x with
    | agg cs => simp only [VR] at h; obtain ⟨us, rfl, h⟩ := h; exact h
    | _ =>
      have h1' := oneV_of h (by simpa [AV.cells, oneL] using h1)
      have : u.cells = #[u] := by cases u <;> simp_all [Value.cells, oneV]
      rw [this]
      simp only [AV.cells, VRs]
      exact ⟨u, [], rfl, h, rfl⟩
  refine ⟨key, fun v hv => ?_⟩
  obtain ⟨i, hi⟩ := List.mem_iff_getElem?.1 hv
  have hl := VRs_length key
  have hi' : i < x.cells.length := by
    rcases Nat.lt_or_ge i x.cells.length with h' | h'
    · exact h'
    · rw [List.getElem?_eq_none (by omega)] at hi; cases hi
  obtain ⟨u', e, hv'⟩ := VRs_get? key (i := i) (c := x.cells[i]) (by simp [hi'])
  rw [hi] at e; cases e
  exact oneV_of hv' (oneL_getElem? h1 (i := i) (by simp [hi']))
end facts
theorem hasN_iff {i : Nat} : ∀ {l : List Nat}, hasN l i = true ↔ i ∈ l
  | [] => by simp [hasN]
  | j :: l => by simp [hasN, hasN_iff (l := l), Nat.beq_eq]
section pure
variable {φ φ' : Emb} {L L' : Nat → Prop} {w : World}
mutual
theorem VR.pure (hl : ∀ i, L' i → L i) : ∀ (x : AV) (u : Value), pureA x = true → VR φ L w x u → VR φ' L' w x u
  | .v _, _, _, h => h
  | .junk, _, _, _ => trivial
  | .agg cs, u, hp, h => by
    simp only [VR] at h ⊢
    obtain ⟨us, e, h⟩ := h
    exact ⟨us, e, VRs.pure hl cs _ (by simpa [pureA] using hp) h⟩
  | .tuple cs, u, hp, h => by
    simp only [VR] at h ⊢
    obtain ⟨us, e, h⟩ := h
    exact ⟨us, e, VRs.pure hl cs _ (by simpa [pureA] using hp) h⟩
  | .iface t x, u, hp, h => by
    simp only [VR] at h ⊢
    obtain ⟨y, e, h⟩ := h
    exact ⟨y, e, VR.pure hl x _ (by simpa [pureA] using hp) h⟩
  | .func fn a b, u, hp, h => by
    simp only [pureA, Bool.and_eq_true] at hp
    simp only [VR] at h ⊢
    obtain ⟨a', b', e, h1, h2⟩ := h
    exact ⟨a', b', e, VRs.pure hl a _ hp.1 h1, VRs.pure hl b _ hp.2 h2⟩
  | .dptr e, u, _, h => by
    simp only [VR] at h ⊢
    obtain ⟨b, o, e1, hL, hb, hp, h⟩ := h
    exact ⟨b, o, e1, fun hh => hL (hl b hh), hb, hp, VRc.pure hl e b o hp h⟩
  | .sl sz es, u, _, h => by
    simp only [VR] at h ⊢
    obtain ⟨a, cap, e1, e2, h⟩ := h
    refine ⟨a, cap, e1, e2, ?_⟩
    rcases h with h | ⟨b, o, ea, hL, hb, h⟩
    · exact .inl h
    · exact .inr ⟨b, o, ea, fun hh => hL (hl b hh), hb, VRe.pure hl sz es b o h⟩
theorem VRs.pure (hl : ∀ i, L' i → L i) : ∀ (cs : List AV) (us : List Value), pureL cs = true → VRs φ L w cs us → VRs φ' L' w cs us
  | [], _, _, h => h
  | c :: cs, us, hp, h => by
    simp only [pureL, Bool.and_eq_true] at hp
    simp only [VRs] at h ⊢
    obtain ⟨x, xs, e, h1, h2⟩ := h
    exact ⟨x, xs, e, VR.pure hl c _ hp.1 h1, VRs.pure hl cs _ hp.2 h2⟩
theorem VRc.pure (hl : ∀ i, L' i → L i) : ∀ (cs : List AV) (b o : Nat), pureL cs = true → VRc φ L w cs b o → VRc φ' L' w cs b o
  | [], _, _, _, _ => trivial
  | c :: cs, b, o, hp, h => by
    simp only [pureL, Bool.and_eq_true] at hp
    simp only [VRc] at h ⊢
    obtain ⟨⟨x, hx, h0, h1⟩, h2⟩ := h
    exact ⟨⟨x, hx, h0, VR.pure hl c _ hp.1 h1⟩, VRc.pure hl cs b (o + 1) hp.2 h2⟩
theorem VRe.pure (hl : ∀ i, L' i → L i) (sz : Nat) : ∀ (es : List (List AV)) (b o : Nat), VRe φ L w sz es b o → VRe φ' L' w sz es b o
  | [], _, _, _ => trivial
  | e :: es, b, o, h => by
    simp only [VRe] at h ⊢
    obtain ⟨h1, h2, h3, h4⟩ := h
    exact ⟨h1, h2, VRc.pure hl e b o h2 h3, VRe.pure hl sz es b (o + sz) h4⟩
end
end pure
def AObj.live : AObj → Bool
  | .cells _ => true
  | .row _ _ => true
  | .loop _ _ _ _ _ _ => true
  | .dblk => true
  | .bld _ _ => true
  | .brow _ _ => true
  | .ints _ _ => true
  | _ => false
def byteCells (s : ByteArray) : List Value := s.data.toList.map fun b => .int .u8 b.toNat
def Lv (φ : Emb) (σ : Nat → AObj) (b : Nat) : Prop := φ.F b ∨ ∃ i s, (σ i).live = true ∧ φ i = some s ∧ s.real = true ∧ s.b = b
def Own (w : World) (s : Slot) : Prop := ∃ (c : Array Value) (t : TypeId) (fr : Nat × Nat), w.heap[s.b]? = some (.cells c t fr) ∧ c.size = s.room ∧ ∀ k, k < c.size → ¬ (fr.1 ≤ k ∧ k < fr.2)
def ObjR (φ : Emb) (L : Nat → Prop) (w : World) (o : AObj) (m : Option Slot) : Prop :=
  match o with
  | .dead => True
  | .cells cs => ∃ s, m = some s ∧ s.real = true ∧ Own w s ∧ s.o + cs.length ≤ s.room ∧ VRc φ L w cs s.b s.o
  | .ints k ds => ∃ s, m = some s ∧ s.real = true ∧ Own w s ∧ s.o + (intsC k ds).length ≤ s.room ∧ VRc φ L w (intsC k ds) s.b s.o
  | .row sz es => ∃ s, m = some s ∧ s.sz = sz ∧ s.n = es.length ∧ (es = [] ∧ s.real = false ∨ s.real = true ∧ Own w s ∧ s.o + es.length * sz ≤ s.room ∧ VRe φ L w sz es s.b s.o)
  | .frow sz es => ∃ s, m = some s ∧ s.sz = sz ∧ s.n = es.length ∧ (es = [] ∧ s.real = false ∨ s.real = true ∧ ¬ L s.b ∧ s.b < w.heap.size ∧ VRe φ L w sz es s.b s.o)
  | .dblk => ∃ s, m = some s ∧ s.real = true ∧ w.heap[s.b]? = some (.deferred (some []))
  | .bld t none => ∃ s, m = some s ∧ s.real = true ∧ (s.o = 0 ∧ s.room = 2) ∧ w.heap[s.b]? = some (.cells #[.pointer none, .slice none 0 0] t (0, 0))
  | .bld t (some j) => ∃ s, m = some s ∧ s.real = true ∧ (s.o = 0 ∧ s.room = 2) ∧ ∃ s', φ j = some s' ∧ ∃ u, w.heap[s.b]? = some (.cells #[.pointer (some ⟨s.b, 0, none⟩), u] t (0, 0)) ∧ (s'.real = false ∧ s'.n = 0 ∧ u = .slice none 0 0 ∨ s'.real = true ∧ s'.b ≠ s.b ∧ u = .slice (some ⟨s'.b, 0, none⟩) s'.n s'.room)
  | .brow e bs => ∃ s, m = some s ∧ s.n = bs.size ∧ (s.real = false ∧ bs.size = 0 ∨ s.real = true ∧ s.n ≤ s.room ∧ ∃ cur, w.heap[s.b]? = some (.cells cur e (0, 0)) ∧ cur.size = s.room ∧ cur.toList.take bs.size = byteCells bs)
  | .loop _ tm ps asg body pend => ∃ s, m = some s ∧ s.real = true ∧ ∃ r : Loop, w.heap[s.b]? = some (.loop r) ∧ VRs φ L w tm r.tmps.toList ∧ r.params = ps.toArray ∧ r.assign = asg ∧ r.body = body ∧ r.pending = pend ∧
      r.state = (if pend.isNone then .ready else .done)
structure Rel (φ : Emb) (σ : Nat → AObj) (w : World) : Prop where
  obj : ∀ i, ObjR φ (Lv φ σ) w (σ i) (φ i)
  inj : ∀ i j s s', (σ i).live = true → (σ j).live = true → φ i = some s → φ j = some s' → s.real = true → s'.real = true → s.b = s'.b → i = j
  out : ∀ i s, (σ i).live = true → φ i = some s → s.real = true → ¬ φ.F s.b
  old : ∀ b, φ.F b → b < w.heap.size
theorem ObjR.lt {φ : Emb} {L : Nat → Prop} {w : World} {o : AObj} {m : Option Slot} {s : Slot} (h : ObjR φ L w o m) (hl : o.live = true) (hm : m = some s) (hr : s.real = true) : s.b < w.heap.size := by
  have key : ∀ {x : Obj}, w.heap[s.b]? = some x → s.b < w.heap.size := fun h => (Array.getElem?_eq_some_iff.1 h).1
  subst hm
  cases o with
  | dead => simp [AObj.live] at hl
  | frow sz es => simp [AObj.live] at hl
  | cells cs => obtain ⟨s', e, _, ⟨c, t, fr, hh, _⟩, _⟩ := h; cases e; exact key hh
  | ints k ds => obtain ⟨s', e, _, ⟨c, t, fr, hh, _⟩, _⟩ := h; cases e; exact key hh
  | row sz es =>
    obtain ⟨s', e, _, _, h | ⟨_, ⟨c, t, fr, hh, _⟩, _⟩⟩ := h
    · cases e; rw [h.2] at hr; cases hr
    · cases e; exact key hh
  | loop fn tm ps asg body pend => obtain ⟨s', e, _, r, hh, _⟩ := h; cases e; exact key hh
  | dblk => obtain ⟨s', e, _, hh⟩ := h; cases e; exact key hh
  | bld t j =>
    cases j with
    | none => obtain ⟨s', e, _, _, hh⟩ := h; cases e; exact key hh
    | some j => obtain ⟨s', e, _, _, _, _, _, hh, _⟩ := h; cases e; exact key hh
  | brow t bs =>
    obtain ⟨s', e, _, h | ⟨_, _, cur, hh, _⟩⟩ := h
    · cases e; rw [h.1] at hr; cases hr
    · cases e; exact key hh
theorem ObjR.mono' {φ φ' : Emb} {L L' : Nat → Prop} {w w' : World} {o : AObj} {m : Option Slot} (h : ObjR φ L w o m) (hφ : ∀ i s, φ i = some s → φ' i = some s) (hk : Keep L w w')
    (hl : ∀ i, L' i → L i ∨ w.heap.size ≤ i) (hb : ∀ s, m = some s → o.live = true → s.real = true → w'.heap[s.b]? = w.heap[s.b]?) : ObjR φ' L' w' o m := by
  cases o with
  | dead => trivial
  | cells cs =>
    obtain ⟨s, e, hr, ⟨c, t, fr, hh, hs, hf⟩, hlen, hc⟩ := h
    have hbb := hb s e rfl hr
    exact ⟨s, e, hr, ⟨c, t, fr, hbb.trans hh, hs, hf⟩, hlen, VRc.mono' hφ hk hl cs _ _ hbb hc⟩
  | ints k ds =>
    obtain ⟨s, e, hr, ⟨c, t, fr, hh, hs, hf⟩, hlen, hc⟩ := h
    have hbb := hb s e rfl hr
    exact ⟨s, e, hr, ⟨c, t, fr, hbb.trans hh, hs, hf⟩, hlen, VRc.mono' hφ hk hl _ _ _ hbb hc⟩
  | row sz es =>
    obtain ⟨s, e, h1, h2, h | ⟨hr, ⟨c, t, fr, hh, hs, hf⟩, hlen, hc⟩⟩ := h
    · exact ⟨s, e, h1, h2, .inl h⟩
    · have hbb := hb s e rfl hr
      exact ⟨s, e, h1, h2, .inr ⟨hr, ⟨c, t, fr, hbb.trans hh, hs, hf⟩, hlen, VRe.mono' hφ hk hl sz es _ _ hbb hc⟩⟩
  | frow sz es =>
    obtain ⟨s, e, h1, h2, h | ⟨hr, hL, hlt, hc⟩⟩ := h
    · exact ⟨s, e, h1, h2, .inl h⟩
    · exact ⟨s, e, h1, h2, .inr ⟨hr, fun hh => (hl _ hh).elim hL (fun h2 => absurd hlt (by omega)), Nat.lt_of_lt_of_le hlt hk.size, VRe.mono' hφ hk hl sz es _ _ (hk.block _ hlt hL) hc⟩⟩
  | dblk =>
    obtain ⟨s, e, hr, hh⟩ := h
    exact ⟨s, e, hr, (hb s e rfl hr).trans hh⟩
  | bld t j =>
    cases j with
    | none =>
      obtain ⟨s, e, hr, h0, hh⟩ := h
      exact ⟨s, e, hr, h0, (hb s e rfl hr).trans hh⟩
    | some j =>
      obtain ⟨s, e, hr, h0, s', e', u, hh, h1⟩ := h
      exact ⟨s, e, hr, h0, s', hφ _ _ e', u, (hb s e rfl hr).trans hh, h1⟩
  | brow t bs =>
    obtain ⟨s, e, h0, h | ⟨hr, h1, cur, hh, h5⟩⟩ := h
    · exact ⟨s, e, h0, .inl h⟩
    · exact ⟨s, e, h0, .inr ⟨hr, h1, cur, (hb s e rfl hr).trans hh, h5⟩⟩
  | loop fn tm ps asg body pend =>
    obtain ⟨s, e, hr, r, hh, h2, h3⟩ := h
    exact ⟨s, e, hr, r, (hb s e rfl hr).trans hh, VRs.mono' hφ hk hl tm _ h2, h3⟩
theorem ObjR.mono {φ φ' : Emb} {L L' : Nat → Prop} {w w' : World} {o : AObj} {m : Option Slot} (h : ObjR φ L w o m) (hφ : φ.le φ') (hk : Keep L w w')
    (hl : ∀ i, L' i → L i ∨ w.heap.size ≤ i) (hb : ∀ s, m = some s → o.live = true → s.real = true → w'.heap[s.b]? = w.heap[s.b]?) : ObjR φ' L' w' o m := h.mono' hφ.1 hk hl hb
theorem Rel.upd {φ φ' : Emb} {σ σ' : Nat → AObj} {w w' : World} (h : Rel φ σ w) (T : Nat → Prop) (hφ : φ.le φ') (hk : Keep (Lv φ σ) w w')
    (hsame : ∀ i, ¬ T i → σ' i = σ i ∧ φ' i = φ i)
    (hblk : ∀ i s, ¬ T i → (σ i).live = true → φ i = some s → s.real = true → w'.heap[s.b]? = w.heap[s.b]?)
    (hL : ∀ i s, T i → (σ' i).live = true → φ' i = some s → s.real = true → w.heap.size ≤ s.b ∨ ∃ j s0, T j ∧ (σ j).live = true ∧ φ j = some s0 ∧ s0.real = true ∧ s0.b = s.b)
    (hinj : ∀ i j s s', T i → T j → (σ' i).live = true → (σ' j).live = true → φ' i = some s → φ' j = some s' → s.real = true → s'.real = true → s.b = s'.b → i = j)
    (hnew : ∀ i, T i → ObjR φ' (Lv φ' σ') w' (σ' i) (φ' i)) : Rel φ' σ' w' := by
  have hl : ∀ b, Lv φ' σ' b → Lv φ σ b ∨ w.heap.size ≤ b := by
    rintro b (hF | ⟨i, s, h1, h2, h3, rfl⟩)
    · rw [hφ.2] at hF; exact .inl (.inl hF)
    by_cases hT : T i
    · rcases hL i s hT h1 h2 h3 with h | ⟨j, s0, _, h5, h6, h7, h8⟩
      · exact .inr h
      · exact .inl (.inr ⟨j, s0, h5, h6, h7, h8⟩)
    · obtain ⟨e1, e2⟩ := hsame i hT
      exact .inl (.inr ⟨i, s, e1 ▸ h1, e2 ▸ h2, h3, rfl⟩)
  refine ⟨fun i => ?_, fun i j s s' li lj ei ej ri rj hb => ?_, fun i s hl e hr => ?_, fun b hb => Nat.lt_of_lt_of_le (h.old b (by rw [hφ.2] at hb; exact hb)) hk.size⟩
  rotate_left
  rotate_left
  · rw [hφ.2]
    by_cases hT : T i
    · rcases hL i s hT hl e hr with h1 | ⟨j, s0, _, h5, h6, h7, h8⟩
      · intro hF; have := h.old _ hF; omega
      · rw [← h8]; exact h.out j s0 h5 h6 h7
    · obtain ⟨e1, e2⟩ := hsame i hT
      exact h.out i s (e1 ▸ hl) (e2 ▸ e) hr
  · by_cases hT : T i
    · exact hnew i hT
    · obtain ⟨e1, e2⟩ := hsame i hT
      rw [e1, e2]
      exact (h.obj i).mono hφ hk hl fun s e hlv hr => hblk i s hT hlv e hr
  · by_cases hTi : T i <;> by_cases hTj : T j
    · exact hinj i j s s' hTi hTj li lj ei ej ri rj hb
    · obtain ⟨e1, e2⟩ := hsame j hTj
      rw [e1] at lj; rw [e2] at ej
      rcases hL i s hTi li ei ri with h1 | ⟨k, s0, hk', h5, h6, h7, h8⟩
      · have := (h.obj j).lt lj ej rj
        omega
      · have := h.inj k j s0 s' h5 lj h6 ej h7 rj (h8.trans hb)
        exact absurd (this ▸ hk') hTj
    · obtain ⟨e1, e2⟩ := hsame i hTi
      rw [e1] at li; rw [e2] at ei
      rcases hL j s' hTj lj ej rj with h1 | ⟨k, s0, hk', h5, h6, h7, h8⟩
      · have := (h.obj i).lt li ei ri
        omega
      · have := h.inj k i s0 s h5 li h6 ei h7 ri (h8.trans hb.symm)
        exact absurd (this ▸ hk') hTi
    · obtain ⟨e1, e2⟩ := hsame i hTi
      obtain ⟨e3, e4⟩ := hsame j hTj
      exact h.inj i j s s' (e1 ▸ li) (e3 ▸ lj) (e2 ▸ ei) (e4 ▸ ej) ri rj hb
end Go.Abs
end
section
namespace Go.Abs
open Go
variable {P : Program} {φ : Emb} {L : Nat → Prop} {w : World}
theorem addr_add (b o j : Nat) : (⟨b, o, none⟩ : Addr).add j = ⟨b, o + j, none⟩ := by
  unfold Addr.add
  split
  · rename_i h; subst h; rfl
  · rfl
theorem info_of_underlying {t : TypeId} {d : TypeDesc} (h : P.underlying t = some d) : ∃ i, P.info? t = some i := by
  unfold Program.underlying at h
  cases hi : P.info? t with
  | none => simp [hi] at h
  | some i => exact ⟨i, rfl⟩
theorem info_of_cells {t : TypeId} (h : P.cellsOf t ≠ 0) : ∃ i, P.info? t = some i := by
  unfold Program.cellsOf at h
  cases hi : P.info? t with
  | none => simp [hi] at h
  | some i => exact ⟨i, rfl⟩
theorem run_typeInfo {t : TypeId} {i : TypeInfo} (h : P.info? t = some i) : (typeInfo t).run P w = .ok i w := by
  simp [typeInfo, program, Sem.run, h]
theorem run_isAgg_true {t : TypeId} (h : isAggT P t = true) : (isAgg t).run P w = .ok true w := by
  unfold isAggT at h
  unfold isAgg
  cases hu : P.underlying t with
  | none => simp [hu] at h
  | some d =>
    rw [Sem.run_bind, run_underlying hu]
    simp only [Result.andThen_ok]
    cases d <;> simp_all
theorem run_isAgg_false {t : TypeId} {d : TypeDesc} (hu : P.underlying t = some d) (h : isAggT P t = false) : (isAgg t).run P w = .ok false w := by
  unfold isAggT at h
  unfold isAgg
  rw [Sem.run_bind, run_underlying hu]
  simp only [Result.andThen_ok]
  cases d <;> simp_all
theorem run_load1 {a : Addr} {v : Value} (h : w.cell? a = some v) : (load a).run P w = .ok v w := by
  simp [load, Sem.run, h]
theorem run_loadCells_VRc {cs : List AV} {b o : Nat} (h : VRc φ L w cs b o) :
    ∃ us : List Value, (loadCells ⟨b, o, none⟩ cs.length).run P w = .ok us.toArray w ∧ VRs φ L w cs us ∧ ∀ v ∈ us, oneV v = true := by
  rw [VRc_iff] at h
  have hex : ∃ us : List Value, us.length = cs.length ∧ ∀ (i : Nat) c, cs[i]? = some c → ∃ x, us[i]? = some x ∧ w.cell? ⟨b, o + i, none⟩ = some x ∧ oneV x = true ∧ VR φ L w c x := by
    induction cs generalizing o with
    | nil => exact ⟨[], rfl, fun i c hc => by simp at hc⟩
    | cons c cs ih =>
      obtain ⟨x, h1, h2, h3⟩ := h 0 c (by simp)
      obtain ⟨us, hl, hu⟩ := ih (o := o + 1) fun i c' hc' => by
        have := h (i + 1) c' (by simpa using hc')
        rw [show o + 1 + i = o + (i + 1) by omega]; exact this
      refine ⟨x :: us, by simp [hl], fun i c' hc' => ?_⟩
      cases i with
      | zero => simp at hc'; subst hc'; exact ⟨x, by simp, h1, h2, h3⟩
      | succ i =>
        obtain ⟨y, e1, e2, e3⟩ := hu i c' (by simpa using hc')
        exact ⟨y, by simpa using e1, by rw [show o + (i + 1) = o + 1 + i by omega]; exact e2, e3⟩
  obtain ⟨us, hl, hu⟩ := hex
  have get : ∀ (j : Nat) v, us[j]? = some v → ∃ c, cs[j]? = some c := fun j v hv => by
    have : j < us.length := by
      rcases Nat.lt_or_ge j us.length with h' | h'
      · exact h'
      · simp [List.getElem?_eq_none h'] at hv
    exact ⟨cs[j]'(by omega), by simp⟩
  refine ⟨us, ?_, VRs_of hl fun i c u hc hu' => ?_, fun v hv => ?_⟩
  · rw [← hl]
    refine run_loadCells_list w _ us fun j v hv => ?_
    obtain ⟨c, hc⟩ := get j v hv
    obtain ⟨x, e1, e2, _⟩ := hu j c hc
    rw [hv] at e1; cases e1
    rw [addr_add]; exact e2
  · obtain ⟨x, e1, _, _, e2⟩ := hu i c hc
    rw [hu'] at e1; cases e1; exact e2
  · obtain ⟨j, hj⟩ := List.mem_iff_getElem?.1 hv
    obtain ⟨c, hc⟩ := get j v hj
    obtain ⟨x, e1, _, e2, _⟩ := hu j c hc
    rw [hj] at e1; cases e1; exact e2
theorem dec_sound {k : LK} {c : AV} {u : Value} (h : VR φ L w c u) (hk : k.ok c = true) : VR φ L w (k.dec c) u := by
  cases k with
  | int k =>
    cases c with
    | v x => cases x <;> simp_all [LK.ok, LK.dec, AV.isInt, AV.toInt, VR]
    | _ => simp [LK.ok, AV.isInt] at hk
  | bool =>
    cases c with
    | v x => cases x <;> simp_all [LK.ok, LK.dec, AV.isBool, AV.toBool, VR]
    | _ => simp [LK.ok, AV.isBool] at hk
  | str =>
    cases c with
    | v x => cases x <;> simp_all [LK.ok, LK.dec, AV.isStr, AV.toStr, VR]
    | _ => simp [LK.ok, AV.isStr] at hk
  | slice sz =>
    cases c with
    | sl sz' es =>
      have : sz = sz' := by simpa [LK.ok, AV.isSl, Nat.beq_eq] using hk
      subst this; exact h
    | v x =>
      simp only [LK.ok, AV.isSl] at hk
      split at hk <;> simp_all [VR, LK.dec, AV.toSl]
    | _ => simp [LK.ok, AV.isSl] at hk
  | other => exact h
theorem decs_length : ∀ (ks : List LK) (cs : List AV) (i : Nat), (decs ks cs i).length = ks.length
  | [], _, _ => rfl
  | _ :: ks, cs, i => by simp [decs, decs_length ks cs (i + 1)]
theorem oks_len : ∀ {ks : List LK} {cs : List AV} {i : Nat}, oks ks cs i = true → ks = [] ∨ i + ks.length ≤ cs.length
  | [], _, _, _ => .inl rfl
  | k :: ks, cs, i, h => by
    simp only [oks, Bool.and_eq_true, decide_eq_true_eq] at h
    rcases oks_len h.2.2 with h' | h'
    · subst h'; right; simp; omega
    · right; simp; omega
theorem decs_sound : ∀ {ks : List LK} {cs : List AV} {us : List Value} {i : Nat}, VRs φ L w cs us → oks ks cs i = true → VRs φ L w (decs ks cs i) ((us.drop i).take ks.length)
  | [], cs, us, i, _, _ => by simp [decs, VRs]
  | k :: ks, cs, us, i, h, hk => by
    simp only [oks, Bool.and_eq_true, decide_eq_true_eq] at hk
    have hl := VRs_length h
    have hi : i < us.length := by omega
    have e : (us.drop i).take (k :: ks).length = us[i] :: (us.drop (i + 1)).take ks.length := by
      rw [List.drop_eq_getElem_cons hi]; rfl
    rw [e]
    simp only [decs, VRs]
    refine ⟨_, _, rfl, dec_sound ?_ hk.2.1, decs_sound h hk.2.2⟩
    have := VRs_getD h i undef
    simpa [List.getD, hi] using this
theorem load_sound {t : TypeId} {ks : List LK} {cs : List AV} {off : Nat} {x : AV} (hx : loadC P t ks cs off = some (true, x)) {b o : Nat} (h : VRc φ L w cs b o) :
    ∃ u, (loadVar t ⟨b, o + off, none⟩).run P w = .ok u w ∧ VR φ L w x u := by
  unfold loadC at hx
  by_cases ha : isAggT P t = true
  · rw [if_pos ha] at hx
    split at hx
    case isFalse => cases hx
    rename_i hlen
    simp only [Option.some.injEq, Prod.mk.injEq] at hx
    obtain ⟨hk, rfl⟩ := hx
    have hu : ∃ d, P.underlying t = some d := by
      unfold isAggT at ha
      cases hu : P.underlying t with
      | none => simp [hu] at ha
      | some d => exact ⟨d, rfl⟩
    obtain ⟨d, hu⟩ := hu
    obtain ⟨inf, hi⟩ := info_of_underlying hu
    have hsub : VRc φ L w ((cs.drop off).take ks.length) b (o + off) := VRc_take (VRc_drop h off) _
    obtain ⟨us, hrun, hv, _⟩ := run_loadCells_VRc (P := P) hsub
    have hl0 : ((cs.drop off).take ks.length).length = ks.length := by
      rcases oks_len hk with h' | h'
      · subst h'; simp
      · simp; omega
    refine ⟨.agg us.toArray, ?_, ?_⟩
    · unfold loadVar
      rw [Sem.run_bind, run_isAgg_true ha]
      simp only [Result.andThen_ok, if_true]
      rw [Sem.run_bind, run_sizeOf _ hi]
      simp only [Result.andThen_ok]
      rw [Sem.run_bind, ← hlen, ← hl0, hrun]
      rfl
    · simp only [VR]
      refine ⟨_, rfl, ?_⟩
      have hk' : oks ks ((cs.drop off).take ks.length) 0 = true := by
        have gen : ∀ (ks : List LK) (n i : Nat), ks.length + i ≤ n → oks ks cs (off + i) = true → oks ks ((cs.drop off).take n) i = true := by
          intro ks
          induction ks with
          | nil => intros; rfl
          | cons k ks ih =>
            intro n i hn hh
            simp only [oks, Bool.and_eq_true, decide_eq_true_eq, List.length_cons] at hh hn ⊢
            have e : ((cs.drop off).take n).getD i .junk = cs.getD (off + i) .junk := by
              simp only [List.getD]
              rw [List.getElem?_take_of_lt (by omega), List.getElem?_drop]
            refine ⟨?_, by rw [e]; exact hh.2.1, ih n (i + 1) (by omega) (by rw [show off + (i + 1) = off + i + 1 by omega]; exact hh.2.2)⟩
            simp; omega
        exact gen ks ks.length 0 (by omega) (by simpa using hk)
      have hds := decs_sound hv hk'
      have hl : us.length = ks.length := (VRs_length hv).trans hl0
      have hus : (us.drop 0).take ks.length = us := by rw [List.drop_zero, List.take_of_length_le (by omega)]
      rw [hus] at hds
      have e : decs ks ((cs.drop off).take ks.length) 0 = decs ks cs off := by
        have gen : ∀ (ks : List LK) (n i : Nat), ks.length + i ≤ n → decs ks ((cs.drop off).take n) i = decs ks cs (off + i) := by
          intro ks
          induction ks with
          | nil => intros; rfl
          | cons k ks ih =>
            intro n i hn
            simp only [decs, List.length_cons] at hn ⊢
            rw [ih n (i + 1) (by omega), show off + (i + 1) = off + i + 1 by omega]
            congr 2
            simp only [List.getD]
            rw [List.getElem?_take_of_lt (by omega), List.getElem?_drop]
        simpa using gen ks ks.length 0 (by omega)
      rw [e] at hds
      simpa using hds
  · rw [if_neg ha] at hx
    split at hx
    case h_2 => cases hx
    rename_i d k hu
    simp only [Option.some.injEq, Prod.mk.injEq] at hx
    obtain ⟨hk, rfl⟩ := hx
    simp only [oks, Bool.and_eq_true, decide_eq_true_eq] at hk
    rw [VRc_iff] at h
    obtain ⟨u, hc, _, hv⟩ := h off (cs.getD off .junk) (by simp [List.getD, hk.1])
    refine ⟨u, ?_, dec_sound hv hk.2.1⟩
    unfold loadVar
    rw [Sem.run_bind, run_isAgg_false hu (by simpa using ha)]
    simp only [Result.andThen_ok, Bool.false_eq_true, if_false]
    exact run_load1 hc
def setA (c : Array Value) : Nat → List Value → Array Value
  | _, [] => c
  | i, v :: vs => setA (c.setIfInBounds i v) (i + 1) vs
theorem setA_size : ∀ (vs : List Value) (c : Array Value) (i : Nat), (setA c i vs).size = c.size
  | [], _, _ => rfl
  | v :: vs, c, i => by simp [setA, setA_size vs]
theorem setA_get : ∀ (vs : List Value) (c : Array Value) (i : Nat), i + vs.length ≤ c.size → ∀ j, (setA c i vs)[j]? = if i ≤ j ∧ j < i + vs.length then vs[j - i]? else c[j]?
  | [], c, i, _, j => by
    have h0 : ¬ (i ≤ j ∧ j < i + ([] : List Value).length) := by simp
    rw [if_neg h0]; rfl
  | v :: vs, c, i, h, j => by
    simp only [setA]
    rw [setA_get vs _ (i + 1) (by simp at h ⊢; omega)]
    simp only [List.length_cons] at h ⊢
    by_cases hj : j = i
    · subst hj
      have : ¬ (j + 1 ≤ j ∧ j < j + 1 + vs.length) := by omega
      rw [if_neg this, if_pos (by omega)]
      rw [Array.getElem?_setIfInBounds_self_of_lt (by omega)]
      simp
    · by_cases h1 : i + 1 ≤ j ∧ j < i + 1 + vs.length
      · rw [if_pos h1, if_pos (by omega)]
        rw [show j - i = (j - (i + 1)) + 1 by omega]; simp
      · rw [if_neg h1, if_neg (by omega)]
        rw [Array.getElem?_setIfInBounds_ne (by omega)]
def putCells (w : World) (b : Nat) (c : Array Value) (t : TypeId) (fr : Nat × Nat) : World := { w with heap := w.heap.setIfInBounds b (.cells c t fr) }
theorem putCells_same {b : Nat} {c : Array Value} {t : TypeId} {fr : Nat × Nat} (h : b < w.heap.size) : (putCells w b c t fr).heap[b]? = some (.cells c t fr) := by
  simp [putCells, h]
theorem putCells_other {b k : Nat} {c : Array Value} {t : TypeId} {fr : Nat × Nat} (h : k ≠ b) : (putCells w b c t fr).heap[k]? = w.heap[k]? := by
  simp [putCells, Array.getElem?_setIfInBounds_ne (Ne.symm h)]
theorem putCells_keep {b : Nat} {c : Array Value} {t : TypeId} {fr : Nat × Nat} (h : L b) : Keep L w (putCells w b c t fr) :=
  ⟨rfl, rfl, rfl, by simp [putCells], fun k _ hn => putCells_other fun e => hn (e ▸ h)⟩
theorem run_storeCells_put : ∀ (vs : List Value) (i : Nat) (c : Array Value) (w : World) (b o : Nat) (t : TypeId) (fr : Nat × Nat),
    w.heap[b]? = some (.cells c t fr) → (∀ k, k < c.size → ¬ (fr.1 ≤ k ∧ k < fr.2)) → o + i + vs.length ≤ c.size → (∀ v ∈ vs, oneV v = true) →
    (storeCells ⟨b, o, none⟩ vs i).run P w = .ok () (putCells w b (setA c (o + i) vs) t fr)
  | [], i, c, w, b, o, t, fr, hh, _, _, _ => by
    have : putCells w b c t fr = w := by
      unfold putCells
      have hb : b < w.heap.size := (Array.getElem?_eq_some_iff.1 hh).1
      have : w.heap.setIfInBounds b (.cells c t fr) = w.heap := by
        apply Array.ext_getElem?
        intro k
        by_cases hk : b = k
        · subst hk; rw [Array.getElem?_setIfInBounds_self_of_lt hb, hh]
        · rw [Array.getElem?_setIfInBounds_ne hk]
      rw [this]
    simp [storeCells, setA, this]
  | v :: vs, i, c, w, b, o, t, fr, hh, hf, hl, h1 => by
    have hb : b < w.heap.size := (Array.getElem?_eq_some_iff.1 hh).1
    simp only [List.length_cons] at hl
    have hcell : w.cell? ⟨b, o + i, none⟩ = some (c[o + i]'(by omega)) := by
      simp only [World.cell?, hh]
      simp [show o + i < c.size by omega]
    have hfz : w.frozen? ⟨b, o + i, none⟩ = false := by
      simp only [World.frozen?, hh]
      have := hf (o + i) (by omega)
      simp only [Bool.and_eq_false_imp, decide_eq_true_eq, decide_eq_false_iff_not]
      intro h2 h3; exact this ⟨h2, h3⟩
    have hset : w.setCell ⟨b, o + i, none⟩ v = putCells w b (c.setIfInBounds (o + i) v) t fr := by
      unfold World.setCell putCells
      congr 1
      apply Array.ext_getElem?
      intro k
      simp only [Array.getElem?_modify]
      by_cases hk : b = k
      · subst hk; rw [if_pos rfl, hh, Array.getElem?_setIfInBounds_self_of_lt hb]; simp
      · rw [if_neg hk, Array.getElem?_setIfInBounds_ne hk]
    have hst : (store ⟨b, o + i, none⟩ v).run P w = .ok () (putCells w b (c.setIfInBounds (o + i) v) t fr) := by
      have hv := h1 v (by simp)
      rw [← hset]
      cases v <;> first | (simp [oneV] at hv; done) | simp [store, Sem.run, hcell, hfz]
    unfold storeCells
    rw [addr_add, Sem.run_bind, hst]
    simp only [Result.andThen_ok]
    have ih := run_storeCells_put vs (i + 1) (c.setIfInBounds (o + i) v) (putCells w b (c.setIfInBounds (o + i) v) t fr) b o t fr
      (putCells_same hb) (by simpa using hf) (by simp; omega) (fun v hv => h1 v (by simp [hv]))
    rw [ih]
    simp only [setA]
    congr 1
    simp only [putCells]
    congr 1
    apply Array.ext_getElem?
    intro k
    by_cases hk : b = k
    · subst hk; rw [Array.getElem?_setIfInBounds_self_of_lt (by simpa using hb), Array.getElem?_setIfInBounds_self_of_lt hb]; rfl
    · rw [Array.getElem?_setIfInBounds_ne hk, Array.getElem?_setIfInBounds_ne hk, Array.getElem?_setIfInBounds_ne hk]
theorem setL_length : ∀ (xs cs : List AV) (i : Nat), (setL cs i xs).length = cs.length
  | [], _, _ => rfl
  | x :: xs, cs, i => by simp [setL, setL_length xs]
theorem setL_get : ∀ (xs cs : List AV) (i : Nat), i + xs.length ≤ cs.length → ∀ j, (setL cs i xs)[j]? = if i ≤ j ∧ j < i + xs.length then xs[j - i]? else cs[j]?
  | [], cs, i, _, j => by
    have h0 : ¬ (i ≤ j ∧ j < i + ([] : List AV).length) := by simp
    rw [if_neg h0]; rfl
  | x :: xs, cs, i, h, j => by
    simp only [setL]
    rw [setL_get xs _ (i + 1) (by simp at h ⊢; omega)]
    simp only [List.length_cons] at h ⊢
    by_cases hj : j = i
    · subst hj
      have : ¬ (j + 1 ≤ j ∧ j < j + 1 + xs.length) := by omega
      rw [if_neg this, if_pos (by omega)]
      rw [List.getElem?_set_self (by omega)]
      simp
    · by_cases h1 : i + 1 ≤ j ∧ j < i + 1 + xs.length
      · rw [if_pos h1, if_pos (by omega)]
        rw [show j - i = (j - (i + 1)) + 1 by omega]; simp
      · rw [if_neg h1, if_neg (by omega)]
        rw [List.getElem?_set_ne (by omega)]
theorem VRc_block {cs : List AV} {b o : Nat} {c : Array Value} {t : TypeId} {fr : Nat × Nat} (hh : w.heap[b]? = some (.cells c t fr)) :
    VRc φ L w cs b o ↔ ∀ (i : Nat) d, cs[i]? = some d → ∃ x, c[o + i]? = some x ∧ oneV x = true ∧ VR φ L w d x := by
  rw [VRc_iff]
  have : ∀ i, w.cell? ⟨b, o + i, none⟩ = c[o + i]? := fun i => by simp [World.cell?, hh]
  simp only [this]
end Go.Abs
end
section
namespace Go.Abs
open Go
def updF (σ : Nat → AObj) : List (Nat × AObj) → Nat → AObj
  | [] => σ
  | p :: wr => updF (fun i => if i = p.1 then p.2 else σ i) wr
def Yield (P : Program) (s : Sem Next) (w : World) (u : Value) (w' : World) : Prop := s.run P w = .ok (.value u) w' ∨ (s.run P w = .ok .skip w' ∧ u = undef)
structure Res (φ : Emb) (σ : Nat → AObj) (w : World) (nx : Nat) (wr : List (Nat × AObj)) (x : AV) (u : Value) (φ' : Emb) (w' : World) : Prop where
  le : φ.le φ'
  keep : Keep (Lv φ σ) w w'
  rel : Rel φ' (updF σ wr) w'
  val : VR φ' (Lv φ' (updF σ wr)) w' x u
  lv : ∀ b, Lv φ' (updF σ wr) b → Lv φ σ b ∨ w.heap.size ≤ b
  new : ∀ i, (i ≠ nx ∨ nx ∉ wr.map Prod.fst) → φ' i = φ i
  frame : ∀ b, φ.F b → w'.heap[b]? = w.heap[b]?
variable {P : Program} {φ : Emb} {σ : Nat → AObj} {w : World} {nx : Nat}
theorem Res.still (hr : Rel φ σ w) {x : AV} {u : Value} (h : VR φ (Lv φ σ) w x u) : Res φ σ w nx [] x u φ w :=
  ⟨φ.le_refl, Keep.refl _ _, hr, h, fun _ h => .inl h, fun _ _ => rfl, fun _ _ => rfl⟩
def setS (φ : Emb) (i : Nat) (s : Slot) : Emb := ⟨fun j => if j = i then some s else φ j, φ.F⟩
theorem setS_le {i : Nat} (h : φ i = none) (s : Slot) : φ.le (setS φ i s) := ⟨fun j t e => by
  simp only [setS]
  split
  · rename_i hj; subst hj; rw [h] at e; cases e
  · exact e, rfl⟩
@[simp] theorem setS_same (i : Nat) (s : Slot) : setS φ i s i = some s := by simp [setS]
theorem setS_other {i j : Nat} (h : j ≠ i) (s : Slot) : setS φ i s j = φ j := by simp [setS, h]
theorem Res.freshO (hr : Rel φ σ w) (hn : φ nx = none) (hd : σ nx = .dead) (ob : Obj) (o : AObj) (s : Slot) (hs : s.b = w.heap.size)
    (x : AV) (u : Value)
    (ho : ∀ (L : Nat → Prop), (∀ b, L b → Lv φ σ b ∨ w.heap.size ≤ b) → (w.alloc ob).heap[s.b]? = some ob → (∀ y v, VR φ (Lv φ σ) w y v → VR (setS φ nx s) L (w.alloc ob) y v) →
      ObjR (setS φ nx s) L (w.alloc ob) o (some s) ∧ VR (setS φ nx s) L (w.alloc ob) x u) :
    Res φ σ w nx [(nx, o)] x u (setS φ nx s) (w.alloc ob) := by
  have hkeep : Keep (Lv φ σ) w (w.alloc ob) := Keep.alloc _ _ _
  have hle := setS_le hn s
  have hupd : updF σ [(nx, o)] = fun i => if i = nx then o else σ i := rfl
  have hnew : (w.alloc ob).heap[s.b]? = some ob := by
    rw [hs]; show (w.heap.push _)[_]? = _; simp
  have hlv : ∀ b, Lv (setS φ nx s) (updF σ [(nx, o)]) b → Lv φ σ b ∨ w.heap.size ≤ b := by
    rintro b (hF | ⟨i, s', h1, h2, h3, rfl⟩)
    · exact .inl (.inl hF)
    by_cases hi : i = nx
    · subst hi; rw [setS_same] at h2; cases h2; right; omega
    · rw [setS_other hi] at h2
      rw [hupd] at h1; simp only [hi, if_false] at h1
      exact .inl (.inr ⟨i, s', h1, h2, h3, rfl⟩)
  have hv := ho _ hlv hnew fun y v h => VR.mono hle hkeep hlv y v h
  refine ⟨hle, hkeep, ?_, hv.2, hlv, fun i hi => setS_other (hi.resolve_right (by simp)) s, fun b hb => RowKit.Below.heap_alloc _ _ _ (hr.old b hb)⟩
  refine hr.upd (fun i => i = nx) hle hkeep (fun i hi => ⟨by rw [hupd]; simp [hi], setS_other hi s⟩) (fun i s' hi hl e hr' => ?_) (fun i s' hi hl e hr' => ?_) (fun i j s1 s2 hi hj _ _ _ _ _ _ _ => hi.trans hj.symm) (fun i hi => ?_)
  · exact RowKit.Below.heap_alloc _ _ _ ((hr.obj i).lt hl e hr')
  · subst hi; rw [setS_same] at e; cases e; left; omega
  · subst hi
    rw [hupd]
    simp only [if_true, setS_same]
    exact hv.1
theorem Res.fresh (hr : Rel φ σ w) (hn : φ nx = none) (hd : σ nx = .dead) (c : Array Value) (t : TypeId) (fr : Nat × Nat) (o : AObj) (s : Slot) (hs : s.b = w.heap.size)
    (x : AV) (u : Value)
    (ho : ∀ (L : Nat → Prop), (∀ b, L b → Lv φ σ b ∨ w.heap.size ≤ b) → (w.alloc (.cells c t fr)).heap[s.b]? = some (.cells c t fr) → (∀ y v, VR φ (Lv φ σ) w y v → VR (setS φ nx s) L (w.alloc (.cells c t fr)) y v) →
      ObjR (setS φ nx s) L (w.alloc (.cells c t fr)) o (some s) ∧ VR (setS φ nx s) L (w.alloc (.cells c t fr)) x u) :
    Res φ σ w nx [(nx, o)] x u (setS φ nx s) (w.alloc (.cells c t fr)) := Res.freshO hr hn hd (.cells c t fr) o s hs x u ho
theorem Res.write (hr : Rel φ σ w) {i : Nat} {s : Slot} (hi : φ i = some s) (hreal : s.real = true) (hlive : (σ i).live = true) {w' : World} (hkeep : Keep (fun b => b = s.b) w w')
    (o : AObj) (x : AV) (u : Value)
    (ho : ∀ (L : Nat → Prop), (∀ b, L b → Lv φ σ b) → (∀ y v, VR φ (Lv φ σ) w y v → VR φ L w' y v) → ObjR φ L w' o (some s) ∧ VR φ L w' x u) :
    Res φ σ w nx [(i, o)] x u φ w' := by
  have hL0 : Lv φ σ s.b := .inr ⟨i, s, hlive, hi, hreal, rfl⟩
  have hk : Keep (Lv φ σ) w w' := hkeep.mono fun b _ e => e ▸ hL0
  have hupd : updF σ [(i, o)] = fun j => if j = i then o else σ j := rfl
  have hlv : ∀ b, Lv φ (updF σ [(i, o)]) b → Lv φ σ b := by
    rintro b (hF | ⟨j, s', h1, h2, h3, rfl⟩)
    · exact .inl hF
    by_cases hj : j = i
    · subst hj; rw [hi] at h2; cases h2; exact hL0
    · rw [hupd] at h1; simp only [hj, if_false] at h1
      exact .inr ⟨j, s', h1, h2, h3, rfl⟩
  have hv := ho _ hlv fun y v h => VR.mono φ.le_refl hk (fun b hb => .inl (hlv b hb)) y v h
  refine ⟨φ.le_refl, hk, ?_, hv.2, fun b hb => .inl (hlv b hb), fun _ _ => rfl, fun b hb => hkeep.block b (hr.old b hb) fun e => hr.out i s hlive hi hreal (e ▸ hb)⟩
  refine hr.upd (fun j => j = i) φ.le_refl hk (fun j hj => ⟨by rw [hupd]; simp [hj], rfl⟩) (fun j s' hj hl e hr' => ?_) (fun j s' hj hl e hr' => ?_) (fun a b s1 s2 ha hb _ _ _ _ _ _ _ => ha.trans hb.symm) (fun j hj => ?_)
  · exact hkeep.block _ ((hr.obj j).lt hl e hr') fun hb => hj (hr.inj j i s' s hl hlive e hi hr' hreal hb)
  · subst hj; exact .inr ⟨j, s, rfl, hlive, hi, hreal, by rw [hi] at e; cases e; rfl⟩
  · subst hj; rw [hupd]; simp only [if_true, hi]; exact hv.1
theorem Rel.weaken (hr : Rel φ σ w) {σ' : Nat → AObj} (h : ∀ i, σ' i = σ i ∨ σ' i = .dead ∨ σ' i = frzObj (σ i)) : Rel φ σ' w ∧ ∀ b, Lv φ σ' b → Lv φ σ b := by
  have hlive : ∀ i, (σ' i).live = true → (σ i).live = true ∧ (σ' i = σ i) := fun i hl => by
    rcases h i with e | e | e
    · exact ⟨e ▸ hl, e⟩
    · rw [e] at hl; cases hl
    · cases hs : σ i with
      | row sz es => rw [e, hs] at hl; cases hl
      | _ => first | (rw [e, hs]; refine ⟨rfl, rfl⟩) | (rw [e, hs] at hl; cases hl)
  have hlv : ∀ b, Lv φ σ' b → Lv φ σ b := fun b h => h.imp id fun ⟨i, s, h1, h2⟩ => ⟨i, s, (hlive i h1).1, h2⟩
  have hm : ∀ i, ObjR φ (Lv φ σ') w (σ i) (φ i) := fun i => (hr.obj i).mono φ.le_refl (Keep.refl _ _) (fun b hb => .inl (hlv b hb)) fun _ _ _ _ => rfl
  refine ⟨⟨fun i => ?_, fun i j s s' li lj => hr.inj i j s s' (hlive i li).1 (hlive j lj).1, fun i s li => hr.out i s (hlive i li).1, hr.old⟩, hlv⟩
  rcases h i with e | e | e
  · rw [e]; exact hm i
  · rw [e]; trivial
  · have hmi := hm i
    have h0 := hr.obj i
    rw [e]
    cases hs : σ i with
    | row sz es =>
      rw [hs] at hmi h0
      obtain ⟨s, e1, h1, h2, h3 | ⟨h3, h4, h5, h6⟩⟩ := hmi
      · exact ⟨s, e1, h1, h2, .inl h3⟩
      · refine ⟨s, e1, h1, h2, .inr ⟨h3, ?_, h0.lt rfl e1 h3, h6⟩⟩
        rintro (hF | ⟨j, s', l1, l2, l3, l4⟩)
        · exact hr.out i s (by rw [hs]; rfl) e1 h3 hF
        have := hr.inj i j s s' (by rw [hs]; rfl) (hlive j l1).1 e1 l2 h3 l3 l4.symm
        subst this
        have := (hlive i l1).2
        rw [e, hs] at this; cases this
    | _ => rw [hs] at hmi; exact hmi
theorem updF_frz (σ : Nat → AObj) : ∀ (js : List Nat) (τ : Nat → AObj), (∀ i, τ i = σ i ∨ τ i = frzObj (σ i)) → ∀ i, updF τ (js.map fun j => (j, frzObj (σ j))) i = τ i ∨ updF τ (js.map fun j => (j, frzObj (σ j))) i = frzObj (σ i)
  | [], τ, _, i => .inl rfl
  | j :: js, τ, h, i => by
    simp only [List.map_cons, updF]
    have := updF_frz σ js (fun i => if i = j then frzObj (σ j) else τ i) (fun i => by
      by_cases hi : i = j
      · subst hi; simp
      · simp only [hi, if_false]; exact h i) i
    rcases this with e | e
    · rw [e]
      by_cases hi : i = j
      · subst hi; right; simp
      · left; simp [hi]
    · exact .inr e
theorem frz_sound {L' : Nat → Prop} (hr : Rel φ σ w) (hL' : ∀ b, L' b → Lv φ σ b) {x : AV} {u : Value} (h : VR φ (Lv φ σ) w x u)
    (hend : ∀ i s, i ∈ ownIds σ x → φ i = some s → s.real = true → ¬ L' s.b) (k : LK) : VR φ L' w (k.frz σ x) u := by
  have base : VR φ L' w x u := VR.mono φ.le_refl (Keep.refl _ _) (fun b hb => .inl (hL' b hb)) x u h
  have noL : ∀ i s, (∃ sz es, σ i = .frow sz es) → φ i = some s → s.real = true → ¬ L' s.b := by
    rintro i s ⟨sz, es, he⟩ hs hreal hb
    have := hr.obj i
    rw [he] at this
    obtain ⟨s', e1, _, _, h3 | ⟨_, h4, _⟩⟩ := this
    · rw [hs] at e1; cases e1; rw [h3.2] at hreal; cases hreal
    · rw [hs] at e1; cases e1; exact h4 (hL' _ hb)
  have whole : ∀ i sz es, (σ i = .row sz es ∨ σ i = .frow sz es) → (∀ s, φ i = some s → s.real = true → ¬ L' s.b) → x = .wref i → VR φ L' w (.sl sz es) u := by
    intro i sz es he hno hx
    subst hx
    simp only [VR] at h ⊢
    obtain ⟨s, hs, hu⟩ := h
    have hob := hr.obj i
    have hob' : s.sz = sz ∧ s.n = es.length ∧ (es = [] ∨ s.b < w.heap.size ∧ VRe φ (Lv φ σ) w sz es s.b s.o) := by
      rcases he with he | he
      · rw [he] at hob
        obtain ⟨s', e1, h1, h2, h3 | ⟨h3, h4, h5, h6⟩⟩ := hob
        · rw [hs] at e1; cases e1; exact ⟨h1, h2, .inl h3.1⟩
        · rw [hs] at e1; cases e1
          obtain ⟨c, t, fr, hh, _⟩ := h4
          exact ⟨h1, h2, .inr ⟨(Array.getElem?_eq_some_iff.1 hh).1, h6⟩⟩
      · rw [he] at hob
        obtain ⟨s', e1, h1, h2, h3 | ⟨h3, h4, h5, h6⟩⟩ := hob
        · rw [hs] at e1; cases e1; exact ⟨h1, h2, .inl h3.1⟩
        · rw [hs] at e1; cases e1; exact ⟨h1, h2, .inr ⟨h5, h6⟩⟩
    obtain ⟨h1, h2, h3⟩ := hob'
    rcases hu with ⟨hreal, cap, rfl, hcap, _⟩ | ⟨hn, a, rfl⟩
    · refine ⟨_, cap, by rw [h2], by omega, ?_⟩
      rcases h3 with h3 | ⟨h3, h4⟩
      · exact .inl h3
      · exact .inr ⟨s.b, s.o, rfl, hno s hs hreal, h3, VRe.pure hL' _ _ _ _ h4⟩
    · have : es = [] := List.length_eq_zero_iff.1 (by omega)
      subst this
      exact ⟨a, 0, by simp, by simp, .inl rfl⟩
  have part : ∀ i off n sz es, (σ i = .row sz es ∨ σ i = .frow sz es) → (∀ s, φ i = some s → s.real = true → ¬ L' s.b) → x = .sref i off n → VR φ L' w (.sl sz ((es.drop off).take n)) u := by
    intro i off n sz es he hno hx
    subst hx
    simp only [VR] at h ⊢
    obtain ⟨s, hs, hle, hu⟩ := h
    have hob := hr.obj i
    have hob' : s.sz = sz ∧ s.n = es.length ∧ (es = [] ∨ s.b < w.heap.size ∧ VRe φ (Lv φ σ) w sz es s.b s.o) := by
      rcases he with he | he
      · rw [he] at hob
        obtain ⟨s', e1, h1, h2, h3 | ⟨h3, h4, h5, h6⟩⟩ := hob
        · rw [hs] at e1; cases e1; exact ⟨h1, h2, .inl h3.1⟩
        · rw [hs] at e1; cases e1
          obtain ⟨c, t, fr, hh, _⟩ := h4
          exact ⟨h1, h2, .inr ⟨(Array.getElem?_eq_some_iff.1 hh).1, h6⟩⟩
      · rw [he] at hob
        obtain ⟨s', e1, h1, h2, h3 | ⟨h3, h4, h5, h6⟩⟩ := hob
        · rw [hs] at e1; cases e1; exact ⟨h1, h2, .inl h3.1⟩
        · rw [hs] at e1; cases e1; exact ⟨h1, h2, .inr ⟨h5, h6⟩⟩
    obtain ⟨h1, h2, h3⟩ := hob'
    have hlen : ((es.drop off).take n).length = n := by simp; omega
    rcases hu with ⟨hreal, cap, rfl, hcap, _⟩ | ⟨hn, a, rfl⟩
    · refine ⟨_, cap, by rw [hlen], by omega, ?_⟩
      rcases h3 with h3 | ⟨h3, h4⟩
      · left; subst h3; simp
      · exact .inr ⟨s.b, s.o + off * s.sz, rfl, hno s hs hreal, h3, by rw [h1]; exact VRe.pure hL' _ _ _ _ (VRe_take (VRe_drop h4 off) n)⟩
    · subst hn
      exact ⟨a, 0, by simp, by simp, .inl (by simp)⟩
  have nil : ∀ sz, x = .v (.slice none 0 0) → VR φ L' w (.sl sz []) u := by
    intro sz hx
    subst hx
    simp only [VR] at h ⊢
    exact ⟨none, 0, by simp [h], by simp, .inl trivial⟩
  have doW : ∀ i, x = .wref i → VR φ L' w (match σ i with | .row sz es => .sl sz es | .frow sz es => .sl sz es | _ => .wref i) u := by
    intro i hx
    cases hs : σ i with
    | row sz es => exact whole i sz es (.inl hs) (fun s e hr' => hend i s (by subst hx; simp [ownIds, hs]) e hr') hx
    | frow sz es => exact whole i sz es (.inr hs) (fun s e hr' => noL i s ⟨sz, es, hs⟩ e hr') hx
    | _ => subst hx; exact base
  have doS : ∀ i off n, x = .sref i off n → VR φ L' w (match σ i with | .row sz es => .sl sz ((es.drop off).take n) | .frow sz es => .sl sz ((es.drop off).take n) | _ => .sref i off n) u := by
    intro i off n hx
    cases hs : σ i with
    | row sz es => exact part i off n sz es (.inl hs) (fun s e hr' => hend i s (by subst hx; simp [ownIds, hs]) e hr') hx
    | frow sz es => exact part i off n sz es (.inr hs) (fun s e hr' => noL i s ⟨sz, es, hs⟩ e hr') hx
    | _ => subst hx; exact base
  unfold LK.frz
  split
  · exact nil _ rfl
  · exact doW _ rfl
  · exact doS _ _ _ rfl
  · exact base
end Go.Abs
end
section
namespace Go.Abs
open Go
variable {P : Program} {φ : Emb} {σ : Nat → AObj} {w : World} {nx : Nat}
theorem info_of_zero {t : TypeId} {z : List AV} (h : zeroL P t = some z) : ∃ i zv, P.info? t = some i ∧ i.zero = some zv ∧ z = zv.cells.toList.map .v := by
  unfold zeroL at h
  cases hi : P.info? t with
  | none => simp [hi] at h
  | some i =>
    cases hz : i.zero with
    | none => simp [hi, hz] at h
    | some zv => simp [hi, hz] at h; exact ⟨i, zv, rfl, hz, h.symm⟩
theorem run_zeroValue {t : TypeId} {i : TypeInfo} {zv : Value} (hi : P.info? t = some i) (hz : i.zero = some zv) : (zeroValue t).run P w = .ok zv w := by
  unfold zeroValue
  rw [Sem.run_bind, run_typeInfo hi]
  simp [hz]
theorem VRs_consts {L : Nat → Prop} : ∀ (vs : List Value), VRs φ L w (vs.map .v) vs
  | [] => by simp [VRs]
  | v :: vs => by simp only [List.map_cons, VRs]; exact ⟨v, vs, rfl, by simp [VR], VRs_consts vs⟩
theorem run_newRow (e : TypeId) (c : Array Value) : (newRow e c).run P w = .ok ⟨w.heap.size, 0, none⟩ (w.alloc (.cells c e)) := by
  rfl
theorem newVar_res (hr : Rel φ σ w) (hn : φ nx = none) (hd : σ nx = .dead) {cs : List AV} {us : Array Value} (hv : VRs φ (Lv φ σ) w cs us.toList) (h1 : ∀ v ∈ us.toList, oneV v = true) (t : TypeId) :
    ∃ φ', Res φ σ w nx [(nx, .cells cs)] (.ptr nx 0) (.pointer (some ⟨w.heap.size, 0, none⟩)) φ' (w.alloc (.cells us t)) := by
  have hl := VRs_length hv
  refine ⟨setS φ nx ⟨w.heap.size, 0, 1, 0, us.size, true⟩, Res.fresh hr hn hd us t (0, 0) _ _ rfl _ _ fun L hL hnew hm => ⟨⟨_, rfl, rfl, ⟨us, t, (0, 0), hnew, rfl, fun k _ h => by omega⟩, ?_, ?_⟩, ?_⟩⟩
  · simp at hl ⊢; omega
  · rw [VRc_block hnew]
    intro i c hc
    obtain ⟨u, hu, hvu⟩ := VRs_get? hv hc
    refine ⟨u, by simpa using hu, h1 u (List.mem_of_getElem? hu), hm _ _ hvu⟩
  · simp [VR]
theorem alloc_sound {t : TypeId} {z : List AV} (hr : Rel φ σ w) (hn : φ nx = none) (hd : σ nx = .dead) (hz : zeroL P t = some z) (h1 : oneL z = true) :
    ∃ φ' u w', (Instr.alloc t true (.tuple #[])).run P w = .ok u w' ∧ Res φ σ w nx [(nx, .cells z)] (.ptr nx 0) u φ' w' := by
  obtain ⟨i, zv, hi, hzv, rfl⟩ := info_of_zero hz
  have hv := VRs_consts (φ := φ) (w := w) (L := Lv φ σ) zv.cells.toList
  obtain ⟨φ', hres⟩ := newVar_res hr hn hd (us := zv.cells) hv (fun v hv' => by
    obtain ⟨j, hj⟩ := List.mem_iff_getElem?.1 hv'
    have := oneL_getElem? h1 (i := j) (c := .v v) (by simp [hj])
    simpa [oneA] using this) t
  refine ⟨φ', _, _, ?_, hres⟩
  unfold Instr.alloc
  rw [Sem.run_bind, run_zeroValue hi hzv]
  simp only [Result.andThen_ok, newVar]
  rw [Sem.run_bind, run_newRow]
  rfl
theorem bld_sound {t : TypeId} {z : List AV} (hr : Rel φ σ w) (hn : φ nx = none) (hd : σ nx = .dead) (hz : zeroL P t = some z) (h1 : bldZ z = true) :
    ∃ φ' u w', (Instr.alloc t true (.tuple #[])).run P w = .ok u w' ∧ Res φ σ w nx [(nx, .bld t none)] (.ptr nx 0) u φ' w' := by
  obtain ⟨i, zv, hi, hzv, rfl⟩ := info_of_zero hz
  have hc : zv.cells = #[.pointer none, .slice none 0 0] := by
    unfold bldZ at h1
    split at h1
    · rename_i e
      apply Array.ext'
      match hl : zv.cells.toList, e with
      | [a, b], e => simp only [List.map_cons, List.map_nil, List.cons.injEq, AV.v.injEq, and_true] at e; rw [e.1, e.2]
    · cases h1
  refine ⟨setS φ nx ⟨w.heap.size, 0, 1, 0, zv.cells.size, true⟩, .pointer (some ⟨w.heap.size, 0, none⟩), w.alloc (.cells zv.cells t), ?_, Res.fresh hr hn hd zv.cells t (0, 0) _ _ rfl _ _ fun L hL hnew hm => ⟨⟨_, rfl, rfl, ⟨rfl, by rw [hc]; rfl⟩, by rw [hnew, hc]⟩, by simp [VR]⟩⟩
  unfold Instr.alloc
  rw [Sem.run_bind, run_zeroValue hi hzv]
  simp only [Result.andThen_ok, newVar]
  rw [Sem.run_bind, run_newRow]
  rfl
theorem box_sound {t : TypeId} {x : AV} {u : Value} (hr : Rel φ σ w) (hn : φ nx = none) (hd : σ nx = .dead) (hx : VR φ (Lv φ σ) w x u) (h1 : oneL x.cells = true) :
    ∃ φ' u' w', (Instr.box t u).run P w = .ok u' w' ∧ Res φ σ w nx [(nx, .cells x.cells)] (.ptr nx 0) u' φ' w' := by
  obtain ⟨hv, hone⟩ := VR_cells hx h1
  obtain ⟨φ', hres⟩ := newVar_res hr hn hd hv hone t
  refine ⟨φ', _, _, ?_, hres⟩
  unfold Instr.box newVar
  rw [Sem.run_bind, run_newRow]
  rfl
theorem place_cells (hr : Rel φ σ w) {a : AV} {ua : Value} (ha : VR φ (Lv φ σ) w a ua) {i off : Nat} {cs : List AV} (hp : placeA σ a = some (.cells i off cs)) :
    ∃ s, φ i = some s ∧ s.real = true ∧ ua = .pointer (some ⟨s.b, s.o + off, none⟩) ∧ σ i = .cells cs ∧ Own w s ∧ s.o + cs.length ≤ s.room ∧ VRc φ (Lv φ σ) w cs s.b s.o := by
  unfold placeA at hp
  split at hp
  · rename_i j o
    split at hp
    · rename_i cs' hcs
      simp only [Option.some.injEq, Place.cells.injEq] at hp
      obtain ⟨rfl, rfl, rfl⟩ := hp
      simp only [VR] at ha
      obtain ⟨s, hs, hreal, rfl⟩ := ha
      have := hr.obj j
      rw [hcs] at this
      obtain ⟨s', e, _, h3, h4, h5⟩ := this
      rw [hs] at e; cases e
      exact ⟨s, hs, hreal, rfl, hcs, h3, h4, h5⟩
    · cases hp
    · cases hp
  · split at hp <;> cases hp
  · cases hp
  · cases hp
theorem place_ints (hr : Rel φ σ w) {a : AV} {ua : Value} (ha : VR φ (Lv φ σ) w a ua) {i off : Nat} {k : IntKind} {ds : List Int} (hp : placeA σ a = some (.ints i off k ds)) :
    ∃ s, φ i = some s ∧ s.real = true ∧ ua = .pointer (some ⟨s.b, s.o + off, none⟩) ∧ σ i = .ints k ds ∧ Own w s ∧ s.o + (intsC k ds).length ≤ s.room ∧ VRc φ (Lv φ σ) w (intsC k ds) s.b s.o := by
  unfold placeA at hp
  split at hp
  · rename_i j o
    split at hp
    · cases hp
    · rename_i k' ds' hcs
      simp only [Option.some.injEq, Place.ints.injEq] at hp
      obtain ⟨rfl, rfl, rfl, rfl⟩ := hp
      simp only [VR] at ha
      obtain ⟨s, hs, hreal, rfl⟩ := ha
      have := hr.obj j
      rw [hcs] at this
      obtain ⟨s', e, _, h3, h4, h5⟩ := this
      rw [hs] at e; cases e
      exact ⟨s, hs, hreal, rfl, hcs, h3, h4, h5⟩
    · cases hp
  · split at hp <;> cases hp
  · cases hp
  · cases hp
theorem place_elem (hr : Rel φ σ w) {a : AV} {ua : Value} (ha : VR φ (Lv φ σ) w a ua) {i n off sz : Nat} {es : List (List AV)} {may : Bool} (hp : placeA σ a = some (.elem i n off sz es may)) :
    ∃ s, φ i = some s ∧ s.real = true ∧ ua = .pointer (some ⟨s.b, s.o + n * sz + off, none⟩) ∧ (may = true → σ i = .row sz es) ∧ s.sz = sz ∧ s.n = es.length ∧
      (es = [] ∨ VRe φ (Lv φ σ) w sz es s.b s.o ∧ (may = true → Own w s ∧ s.o + es.length * sz ≤ s.room)) := by
  unfold placeA at hp
  split at hp
  · split at hp <;> cases hp
  · rename_i j m o
    simp only [VR] at ha
    obtain ⟨s, hs, hreal, rfl⟩ := ha
    have hob := hr.obj j
    split at hp
    · rename_i sz' es' hcs
      simp only [Option.some.injEq, Place.elem.injEq] at hp
      obtain ⟨rfl, rfl, rfl, rfl, rfl, rfl⟩ := hp
      rw [hcs] at hob
      obtain ⟨s', e, h1, h2, h3 | ⟨h3, h4, h5, h6⟩⟩ := hob
      · rw [hs] at e; cases e; exact ⟨s, hs, hreal, by rw [h1], fun _ => hcs, h1, h2, .inl h3.1⟩
      · rw [hs] at e; cases e; exact ⟨s, hs, hreal, by rw [h1], fun _ => hcs, h1, h2, .inr ⟨h6, fun _ => ⟨h4, h5⟩⟩⟩
    · rename_i sz' es' hcs
      simp only [Option.some.injEq, Place.elem.injEq] at hp
      obtain ⟨rfl, rfl, rfl, rfl, rfl, rfl⟩ := hp
      rw [hcs] at hob
      obtain ⟨s', e, h1, h2, h3 | ⟨h3, h4, h5, h6⟩⟩ := hob
      · rw [hs] at e; cases e; exact ⟨s, hs, hreal, by rw [h1], fun h => by simp at h, h1, h2, .inl h3.1⟩
      · rw [hs] at e; cases e; exact ⟨s, hs, hreal, by rw [h1], fun h => by simp at h, h1, h2, .inr ⟨h6, fun h => by simp at h⟩⟩
    · cases hp
  · cases hp
  · cases hp
theorem run_loadAt {t : TypeId} {a : Addr} : (Instr.loadAt t (.pointer (some a))).run P w = (loadVar t a).run P w := by
  unfold Instr.loadAt Instr.sureAddr
  rw [Sem.run_bind]; rfl
theorem loadA_sound {t : TypeId} {a : AV} {ua : Value} (hr : Rel φ σ w) (ha : VR φ (Lv φ σ) w a ua) {x : AV} {wr : List (Nat × AObj)} (h : loadA P t σ a = some (true, x, wr)) :
    ∃ u, (Instr.loadAt t ua).run P w = .ok u w ∧ VR φ (Lv φ σ) w x u ∧ wr = [] := by
  unfold loadA at h
  split at h
  · rename_i i off cs hp
    obtain ⟨s, _, _, rfl, _, _, _, hc⟩ := place_cells hr ha hp
    simp only [askd, Option.map_eq_some_iff] at h
    obtain ⟨⟨b, y⟩, hb, e⟩ := h
    simp only [Prod.mk.injEq] at e
    obtain ⟨rfl, rfl, rfl⟩ := e
    obtain ⟨u, hrun, hv⟩ := load_sound hb hc
    exact ⟨u, run_loadAt.trans hrun, hv, rfl⟩
  · rename_i i n off sz es may hp
    obtain ⟨s, _, _, rfl, _, _, _, hc⟩ := place_elem hr ha hp
    simp only [Option.map_eq_some_iff] at h
    obtain ⟨⟨b, y⟩, hb, e⟩ := h
    simp only [Prod.mk.injEq, Bool.and_eq_true, decide_eq_true_eq] at e
    obtain ⟨⟨hn, rfl⟩, rfl, rfl⟩ := e
    rcases hc with hc | ⟨hc, _⟩
    · subst hc; simp at hn
    · rw [VRe_iff] at hc
      have := (hc n (es.getD n []) (by simp [List.getD, hn])).2.2
      obtain ⟨u, hrun, hv⟩ := load_sound hb this
      exact ⟨u, run_loadAt.trans hrun, hv, rfl⟩
  · rename_i e' hp
    unfold placeA at hp
    split at hp
    · split at hp <;> cases hp
    · split at hp <;> cases hp
    · rename_i e''
      simp only [Option.some.injEq, Place.data.injEq] at hp
      subst hp
      simp only [VR] at ha
      obtain ⟨b, o, rfl, _, _, _, hc⟩ := ha
      simp only [askd, Option.map_eq_some_iff] at h
      obtain ⟨⟨b', y⟩, hb, e⟩ := h
      simp only [Prod.mk.injEq] at e
      obtain ⟨rfl, rfl, rfl⟩ := e
      obtain ⟨u, hrun, hv⟩ := load_sound hb hc
      exact ⟨u, run_loadAt.trans (by simpa using hrun), hv, rfl⟩
    · cases hp
  · rename_i i off k ds hp
    obtain ⟨s, _, _, rfl, _, _, _, hc⟩ := place_ints hr ha hp
    simp only [askd, Option.map_eq_some_iff] at h
    obtain ⟨⟨b, y⟩, hb, e⟩ := h
    simp only [Prod.mk.injEq] at e
    obtain ⟨rfl, rfl, rfl⟩ := e
    obtain ⟨u, hrun, hv⟩ := load_sound hb hc
    exact ⟨u, run_loadAt.trans hrun, hv, rfl⟩
  · cases h
theorem run_storeVar {t : TypeId} {a : Addr} {v : Value} {i : TypeInfo} (hi : P.info? t = some i) (hs : v.cells.size = P.cellsOf t) : (storeVar t a v).run P w = (storeCells a v.cells.toList).run P w := by
  unfold storeVar
  rw [Sem.run_bind, run_sizeOf _ hi]
  simp [hs]
theorem run_storeAt {t : TypeId} {a : Addr} {v : Value} : (Instr.storeAt t (.pointer (some a)) v).run P w = (storeVar t a v).run P w := by
  unfold Instr.storeAt Instr.sureAddr
  rw [Sem.run_bind]; rfl
theorem store_cells (hr : Rel φ σ w) {i off : Nat} {cs : List AV} {s : Slot} (hi : φ i = some s) (hreal : s.real = true) (hlive : (σ i).live = true) (hown : Own w s) (hroom : s.o + cs.length ≤ s.room) (hc : VRc φ (Lv φ σ) w cs s.b s.o)
    {x : AV} {u : Value} (hx : VR φ (Lv φ σ) w x u) (h1 : oneL x.cells = true) {t : TypeId} (hlen : x.cells.length = P.cellsOf t) (ht : P.cellsOf t ≠ 0) (hoff : off + P.cellsOf t ≤ cs.length)
    {o' : AObj} (ho' : ∀ L w', ObjR φ L w' (.cells (setL cs off x.cells)) (some s) → ObjR φ L w' o' (some s)) :
    ∃ w', (Instr.storeAt t (.pointer (some ⟨s.b, s.o + off, none⟩)) u).run P w = .ok () w' ∧ Res φ σ w nx [(i, o')] .junk undef φ w' := by
  obtain ⟨hv, hone⟩ := VR_cells hx h1
  have hl := VRs_length hv
  obtain ⟨c, ty, fr, hh, hsz, hf⟩ := hown
  obtain ⟨inf, hinf⟩ := info_of_cells ht
  have hb : s.b < w.heap.size := (Array.getElem?_eq_some_iff.1 hh).1
  have hfit : s.o + off + u.cells.toList.length ≤ c.size := by rw [hl, hsz]; omega
  refine ⟨putCells w s.b (setA c (s.o + off) u.cells.toList) ty fr, ?_, ?_⟩
  · rw [run_storeAt, run_storeVar hinf (by rw [← hlen, ← hl]; simp)]
    simpa using run_storeCells_put (P := P) u.cells.toList 0 c w s.b (s.o + off) ty fr hh hf (by simpa using hfit) hone
  · refine Res.write hr hi hreal hlive (putCells_keep rfl) _ _ _ fun L hL hm => ⟨ho' _ _ ⟨s, rfl, hreal, ⟨_, ty, fr, putCells_same hb, by rw [setA_size, hsz], fun k hk => hf k (by rwa [setA_size] at hk)⟩, by rw [setL_length]; exact hroom, ?_⟩, trivial⟩
    rw [VRc_block (putCells_same hb)]
    intro j d hd
    rw [setL_get _ _ _ (by omega)] at hd
    rw [setA_get _ _ _ hfit]
    by_cases hj : off ≤ j ∧ j < off + x.cells.length
    · rw [if_pos hj] at hd
      rw [if_pos (by rw [hl]; omega)]
      obtain ⟨y, hy, hvy⟩ := VRs_get? hv hd
      refine ⟨y, by rw [show s.o + j - (s.o + off) = j - off by omega]; exact hy, hone y (List.mem_of_getElem? hy), hm _ _ hvy⟩
    · rw [if_neg hj] at hd
      rw [if_neg (by rw [hl]; omega)]
      obtain ⟨y, hy, h3, h4⟩ := (VRc_block hh).1 hc j d hd
      exact ⟨y, hy, h3, hm _ _ h4⟩
theorem updF_append (σ : Nat → AObj) : ∀ (a b : List (Nat × AObj)), updF σ (a ++ b) = updF (updF σ a) b
  | [], _ => rfl
  | p :: a, b => by simp only [List.cons_append, updF]; exact updF_append _ a b
theorem Res.after {w1 : List (Nat × AObj)} (h1 : ∀ b, Lv φ (updF σ w1) b → Lv φ σ b) {wr : List (Nat × AObj)} {x : AV} {u : Value} {φ' : Emb} {w' : World} (h : Res φ (updF σ w1) w nx wr x u φ' w') : Res φ σ w nx (w1 ++ wr) x u φ' w' :=
  ⟨h.le, h.keep.mono fun b _ hb => h1 b hb, by rw [updF_append]; exact h.rel, by rw [updF_append]; exact h.val, fun b hb => by
    rw [updF_append] at hb; exact (h.lv b hb).imp (h1 b) id, fun i hi => h.new i (hi.imp id fun hi => by simp only [List.map_append, List.mem_append, not_or] at hi; exact hi.2), h.frame⟩
def frzWr (σ : Nat → AObj) (js : List Nat) : List (Nat × AObj) := js.map fun j => (j, frzObj (σ j))
theorem frzWr_weak (js : List Nat) (i : Nat) : updF σ (frzWr σ js) i = σ i ∨ updF σ (frzWr σ js) i = .dead ∨ updF σ (frzWr σ js) i = frzObj (σ i) :=
  (updF_frz σ js σ (fun _ => .inl rfl) i).imp id .inr
theorem updF_other (i : Nat) : ∀ (wr : List (Nat × AObj)) (σ : Nat → AObj), (∀ p ∈ wr, p.1 ≠ i) → updF σ wr i = σ i
  | [], _, _ => rfl
  | p :: wr, σ, h => by
    simp only [updF]
    rw [updF_other i wr _ fun q hq => h q (by simp [hq])]
    rw [if_neg (Ne.symm (h p (by simp)))]
theorem updF_frzWr_mem {js : List Nat} {i : Nat} (h : i ∈ js) : updF σ (frzWr σ js) i = frzObj (σ i) := by
  have gen : ∀ (js : List Nat) (τ : Nat → AObj), (τ i = frzObj (σ i) ∨ i ∈ js) → updF τ (js.map fun j => (j, frzObj (σ j))) i = frzObj (σ i) := by
    intro js
    induction js with
    | nil => intro τ h; exact h.resolve_right (by simp)
    | cons j js ih =>
      intro τ h
      simp only [List.map_cons, updF]
      refine ih _ ?_
      by_cases hj : i = j
      · subst hj; left; simp
      · rcases h with h | h
        · left; simp [hj, h]
        · right; simpa [hj] using h
  exact gen js σ (.inr h)
theorem frz_end (hr : Rel φ σ w) {js : List Nat} {i : Nat} {s : Slot} (h : i ∈ js) (hrow : ∃ sz es, σ i = .row sz es) (hi : φ i = some s) (hreal : s.real = true) : ¬ Lv φ (updF σ (frzWr σ js)) s.b := by
  obtain ⟨sz, es, hrow⟩ := hrow
  rintro (hF | ⟨j, s', l1, l2, l3, l4⟩)
  · exact hr.out i s (by rw [hrow]; rfl) hi hreal hF
  have hj : (σ j).live = true ∧ updF σ (frzWr σ js) j = σ j := by
    rcases frzWr_weak (σ := σ) js j with e | e | e
    · exact ⟨by rwa [e] at l1, e⟩
    · rw [e] at l1; cases l1
    · cases hs : σ j with
      | row sz' es' => rw [e, hs] at l1; cases l1
      | _ => first | exact ⟨rfl, by rw [e, hs]; rfl⟩ | (rw [e, hs] at l1; cases l1)
  have := hr.inj i j s s' (by rw [hrow]; rfl) hj.1 hi l2 hreal l3 l4.symm
  subst this
  have h2 := updF_frzWr_mem (σ := σ) h
  rw [h2, hrow] at l1
  cases l1
theorem ownIds_row {x : AV} {i : Nat} (h : i ∈ ownIds σ x) : ∃ sz es, σ i = .row sz es := by
  unfold ownIds at h
  split at h
  · rename_i j
    split at h
    · rename_i sz es hs
      simp at h; subst h; exact ⟨sz, es, hs⟩
    · simp at h
  · rename_i j _ _
    split at h
    · rename_i sz es hs
      simp at h; subst h; exact ⟨sz, es, hs⟩
    · simp at h
  · simp at h
theorem frzCell (hr : Rel φ σ w) {js : List Nat} {x : AV} {u : Value} (h : VR φ (Lv φ σ) w x u) (hsub : ∀ i, i ∈ ownIds σ x → i ∈ js) (k : LK) : VR φ (Lv φ (updF σ (frzWr σ js))) w (k.frz σ x) u :=
  frz_sound hr (hr.weaken (frzWr_weak js)).2 h (fun _ _ hi e hreal => frz_end hr (hsub _ hi) (ownIds_row hi) e hreal) k
theorem VRs_frz (hr : Rel φ σ w) {js : List Nat} : ∀ (ks : List LK) {cs : List AV} {us : List Value}, VRs φ (Lv φ σ) w cs us → (∀ i, i ∈ cs.flatMap (ownIds σ) → i ∈ js) →
    VRs φ (Lv φ (updF σ (frzWr σ js))) w (frzL σ ks cs) us
  | [], cs, us, h, _ => by
    have : frzL σ [] cs = cs := by unfold frzL; rfl
    rw [this]
    exact VRs.mono φ.le_refl (Keep.refl _ _) (fun b hb => .inl ((hr.weaken (frzWr_weak js)).2 b hb)) _ _ h
  | k :: ks, [], us, h, _ => by
    have : frzL σ (k :: ks) [] = [] := by unfold frzL; rfl
    rw [this]; exact h
  | k :: ks, c :: cs, us, h, hsub => by
    simp only [VRs] at h
    obtain ⟨x, xs, rfl, h1, h2⟩ := h
    simp only [frzL, VRs]
    exact ⟨x, xs, rfl, frzCell hr h1 (fun i hi => hsub i (by simp [hi])) k, VRs_frz hr ks h2 fun i hi => hsub i (by
      simp only [List.flatMap_cons, List.mem_append]; exact .inr hi)⟩
theorem store_elem (hr : Rel φ σ w) {i n off sz : Nat} {es : List (List AV)} {s : Slot} (hi : φ i = some s) (hreal : s.real = true) (hrow : σ i = .row sz es) (hsz : s.sz = sz) (hn : s.n = es.length) (hown : Own w s)
    (hroom : s.o + es.length * sz ≤ s.room) (hc : VRe φ (Lv φ σ) w sz es s.b s.o) {x : AV} {u : Value} (hx : VR φ (Lv φ σ) w x u) {t : TypeId} {js : List Nat} (hjs : ∀ j, j ∈ x.cells.flatMap (ownIds σ) → j ∈ js) (hij : i ∉ js)
    {xs : List AV} (hxs : xs = frzL σ (leafs P 9 t) x.cells) (h1 : oneL x.cells = true) (hp : pureL xs = true) (hlen : xs.length = P.cellsOf t) (ht : P.cellsOf t ≠ 0) (hoff : off + P.cellsOf t ≤ sz) (hnn : n < es.length) (e' : List AV)
    (he' : e' = if off = 0 ∧ xs.length = sz then xs else setL (es.getD n []) off xs) :
    ∃ w', (Instr.storeAt t (.pointer (some ⟨s.b, s.o + n * sz + off, none⟩)) u).run P w = .ok () w' ∧ Res φ σ w nx (frzWr σ js ++ [(i, .row sz (es.set n e'))]) .junk undef φ w' := by
  obtain ⟨hv0, hone⟩ := VR_cells hx h1
  have hv := VRs_frz hr (js := js) (leafs P 9 t) hv0 hjs
  rw [← hxs] at hv
  have hl := VRs_length hv
  obtain ⟨hr1, hlv1⟩ := hr.weaken (frzWr_weak js)
  have hi1 : updF σ (frzWr σ js) i = .row sz es := by
    rw [updF_other i _ σ fun p hp' => by
      simp only [frzWr, List.mem_map] at hp'
      obtain ⟨j, hj, rfl⟩ := hp'
      intro e; exact hij (e ▸ hj)]
    exact hrow
  have hc1 := VRe.pure (φ' := φ) hlv1 sz es s.b s.o hc
  obtain ⟨c, ty, fr, hh, hsz', hf⟩ := hown
  obtain ⟨inf, hinf⟩ := info_of_cells ht
  have hb : s.b < w.heap.size := (Array.getElem?_eq_some_iff.1 hh).1
  have hmul : n * sz + sz ≤ es.length * sz := by
    have := Nat.mul_le_mul_right sz (show n + 1 ≤ es.length from hnn)
    rw [Nat.add_mul] at this; omega
  have hfit : s.o + n * sz + off + u.cells.toList.length ≤ c.size := by rw [hl, hlen, hsz']; omega
  refine ⟨putCells w s.b (setA c (s.o + n * sz + off) u.cells.toList) ty fr, ?_, Res.after hlv1 ?_⟩
  · rw [run_storeAt, run_storeVar hinf (by rw [← hlen, ← hl]; simp)]
    simpa using run_storeCells_put (P := P) u.cells.toList 0 c w s.b (s.o + n * sz + off) ty fr hh hf (by simpa using hfit) hone
  · have hlen' : e'.length = sz := by
      rw [he']
      split
      · rename_i h; exact h.2
      · rw [setL_length]
        exact ((VRe_iff.1 hc) n _ (by simp [List.getD, hnn])).1
    refine Res.write hr1 hi hreal (by rw [hi1]; rfl) (putCells_keep rfl) _ _ _ fun L hL hm => ⟨⟨s, rfl, hsz, by simp [hn], .inr ⟨hreal, ⟨_, ty, fr, putCells_same hb, by rw [setA_size, hsz'], fun k hk => hf k (by rwa [setA_size] at hk)⟩, by simpa using hroom, ?_⟩⟩, trivial⟩
    rw [VRe_iff]
    intro j d hd
    have old : ∀ j d, es[j]? = some d → ∀ (q : Nat) y, d[q]? = some y → ¬ (n * sz + off ≤ j * sz + q ∧ j * sz + q < n * sz + off + xs.length) →
        ∃ z, (setA c (s.o + n * sz + off) u.cells.toList)[s.o + j * sz + q]? = some z ∧ oneV z = true ∧ VR φ L (putCells w s.b (setA c (s.o + n * sz + off) u.cells.toList) ty fr) y z := by
      intro j d hd q y hy hne
      rw [setA_get _ _ _ hfit, if_neg (by rw [hl]; omega)]
      obtain ⟨z, hz, h3, h4⟩ := (VRc_block hh).1 ((VRe_iff.1 hc1) j d hd).2.2 q y hy
      exact ⟨z, hz, h3, hm _ _ h4⟩
    by_cases hj : n = j
    · subst hj
      rw [List.getElem?_set_self hnn] at hd
      cases hd
      have hold : es[n]? = some (es.getD n []) := by simp [List.getD, hnn]
      have hpo := ((VRe_iff.1 hc1) n _ hold)
      have new : ∀ (q : Nat) y, xs[q - off]? = some y → off ≤ q → q < off + xs.length → ∃ z, (setA c (s.o + n * sz + off) u.cells.toList)[s.o + n * sz + q]? = some z ∧ oneV z = true ∧ VR φ L (putCells w s.b (setA c (s.o + n * sz + off) u.cells.toList) ty fr) y z := by
        intro q y hy h5 h6
        rw [setA_get _ _ _ hfit, if_pos (by rw [hl]; omega)]
        obtain ⟨z, hz, hvz⟩ := VRs_get? hv hy
        exact ⟨z, by rw [show s.o + n * sz + q - (s.o + n * sz + off) = q - off by omega]; exact hz, hone z (List.mem_of_getElem? hz), hm _ _ hvz⟩
      refine ⟨hlen', ?_, ?_⟩
      · rw [he']
        split
        · exact hp
        · have gen : ∀ (xs cs : List AV) (i : Nat), pureL xs = true → pureL cs = true → pureL (setL cs i xs) = true := by
            intro xs
            induction xs with
            | nil => intro cs i _ h; exact h
            | cons x xs ih =>
              intro cs i h h'
              simp only [pureL, Bool.and_eq_true] at h
              simp only [setL]
              refine ih _ _ h.2 ?_
              clear ih
              induction cs generalizing i with
              | nil => simpa using h'
              | cons c cs ih =>
                simp only [pureL, Bool.and_eq_true] at h'
                cases i with
                | zero => simp only [List.set_cons_zero, pureL, Bool.and_eq_true]; exact ⟨h.1, h'.2⟩
                | succ i => simp only [List.set_cons_succ, pureL, Bool.and_eq_true]; exact ⟨h'.1, ih i h'.2⟩
          exact gen _ _ _ hp hpo.2.1
      · rw [VRc_block (putCells_same hb)]
        intro q y hy
        rw [he'] at hy
        split at hy
        · rename_i h
          have hq : q < xs.length := by
            rcases Nat.lt_or_ge q xs.length with h' | h'
            · exact h'
            · simp [List.getElem?_eq_none h'] at hy
          exact new q y (by rw [h.1]; simpa using hy) (by omega) (by omega)
        · rw [setL_get _ _ _ (by rw [hpo.1]; omega)] at hy
          split at hy
          · rename_i h; exact new q y hy h.1 h.2
          · rename_i h
            have hq : q < (es.getD n []).length := by
              rcases Nat.lt_or_ge q (es.getD n []).length with h' | h'
              · exact h'
              · rw [List.getElem?_eq_none h'] at hy; cases hy
            exact old n _ hold q y hy (by omega)
    · rw [List.getElem?_set_ne hj] at hd
      obtain ⟨h5, h6, h7⟩ := (VRe_iff.1 hc1) j d hd
      refine ⟨h5, h6, ?_⟩
      rw [VRc_block (putCells_same hb)]
      intro q y hy
      have hq : q < d.length := by
        rcases Nat.lt_or_ge q d.length with h' | h'
        · exact h'
        · simp [List.getElem?_eq_none h'] at hy
      refine old j d hd q y hy ?_
      rintro ⟨h8, h9⟩
      rcases Nat.lt_or_gt_of_ne hj with h10 | h10
      · have := Nat.mul_le_mul_right sz (show n + 1 ≤ j from h10)
        rw [Nat.add_mul] at this; omega
      · have := Nat.mul_le_mul_right sz (show j + 1 ≤ n from h10)
        rw [Nat.add_mul] at this; omega
theorem storeA_sound {t : TypeId} {a x : AV} {ua u : Value} (hr : Rel φ σ w) (ha : VR φ (Lv φ σ) w a ua) (hx : VR φ (Lv φ σ) w x u) {y : AV} {wr : List (Nat × AObj)} (h : storeA P t σ a x = some (true, y, wr)) :
    ∃ w', (Instr.storeAt t ua u).run P w = .ok () w' ∧ Res φ σ w nx wr y undef φ w' := by
  unfold storeA at h
  split at h
  · rename_i i off cs hp
    obtain ⟨s, hi, hreal, rfl, hcs, hown, hroom, hc⟩ := place_cells hr ha hp
    split at h
    · rename_i hh
      simp only [Option.some.injEq, Prod.mk.injEq, decide_eq_true_eq] at h
      obtain ⟨h1, rfl, rfl⟩ := h
      exact store_cells hr hi hreal (by rw [hcs]; rfl) hown hroom hc hx hh.2.2 hh.1 hh.2.1 h1 fun _ _ h => h
    · cases h
  · rename_i i n off sz es hp
    obtain ⟨s, hi, hreal, rfl, hrow, hsz, hn, hc⟩ := place_elem hr ha hp
    simp only at h
    split at h
    · rename_i hh
      simp only [Option.some.injEq, Prod.mk.injEq, decide_eq_true_eq] at h
      obtain ⟨h1, rfl, rfl⟩ := h
      rcases hc with hc | ⟨hc, hown⟩
      · subst hc; simp at h1
      · exact store_elem hr hi hreal (hrow rfl) hsz hn (hown rfl).1 (hown rfl).2 hc hx (fun j hj => hj) (fun hm => by have := hasN_iff.2 hm; rw [hh.2.2.2.2.2] at this; cases this) rfl hh.2.2.2.2.1 hh.2.2.2.1 hh.1 hh.2.1 hh.2.2.1 h1 _ rfl
    · cases h
  · rename_i i off k ds hp
    obtain ⟨s, hi, hreal, rfl, hcs, hown, hroom, hc⟩ := place_ints hr ha hp
    split at h
    · rename_i k' n
      split at h
      · rename_i hh
        simp only [Option.some.injEq, Prod.mk.injEq, decide_eq_true_eq] at h
        obtain ⟨h1, rfl, rfl⟩ := h
        obtain ⟨rfl, ht⟩ := hh
        refine store_cells hr hi hreal (by rw [hcs]; rfl) hown hroom hc hx rfl (by rw [ht]; rfl) (by omega) (by rw [ht]; simpa [intsC] using h1) fun L w' h => ?_
        have e : intsC k (ds.set off n) = setL (intsC k ds) off (AV.v (.int k n)).cells := by simp [intsC, setL, AV.cells, List.map_set]
        show ∃ s, _
        rw [e]
        exact h
      · cases h
    · split at h
      · rename_i hh
        split at h
        · rename_i h0
          simp only [Option.some.injEq, Prod.mk.injEq, decide_eq_true_eq] at h
          obtain ⟨h1, rfl, rfl⟩ := h
          subst h0
          have e : x.cells = setL (intsC k ds) 0 x.cells := by
            refine List.ext_getElem? fun j => ?_
            rw [setL_get _ _ _ (by simp [intsC]; omega)]
            split
            · rfl
            · rename_i hj
              rw [List.getElem?_eq_none (by omega), List.getElem?_eq_none (by simp [intsC]; omega)]
          rw [e]
          exact store_cells hr hi hreal (by rw [hcs]; rfl) hown hroom hc hx hh.2.2 hh.1 hh.2.1 (by simp [intsC]; omega) fun _ _ h => h
        · simp only [Option.some.injEq, Prod.mk.injEq, decide_eq_true_eq] at h
          obtain ⟨h1, rfl, rfl⟩ := h
          exact store_cells hr hi hreal (by rw [hcs]; rfl) hown hroom hc hx hh.2.2 hh.1 hh.2.1 h1 fun _ _ h => h
      · cases h
  · cases h
end Go.Abs
end
section
namespace Go.Abs
open Go
variable {P : Program} {φ : Emb} {σ : Nat → AObj} {L : Nat → Prop} {w : World} {nx : Nat}
theorem VR_v {x u : Value} : VR φ L w (.v x) u ↔ u = x := by simp [VR]
theorem intBin_sound {op : BinOp} {t : TypeId} {k : IntKind} {a b : Int} {x : AV} (h : intBin op k a b = some (true, x)) :
    ∃ u, (binOp op t (.int k a) (.int k b)).run P w = .ok u w ∧ VR φ L w x u := by
  cases op <;> simp only [intBin, ile_eq, ilt_eq, Option.some.injEq, Prod.mk.injEq, decide_eq_true_eq, reduceCtorEq] at h
  case quo =>
    obtain ⟨h1, rfl⟩ := h
    refine ⟨_, ?_, by rw [intV, VR_v]⟩
    simp [binOp, Op.intDiv, h1]
  case rem =>
    obtain ⟨h1, rfl⟩ := h
    refine ⟨_, ?_, by rw [intV, VR_v]⟩
    simp [binOp, Op.intDiv, h1]
  all_goals
    first
      | exact absurd h False.elim
      | (obtain ⟨_, rfl⟩ := h
         refine ⟨_, ?_, by first | rw [intV, VR_v] | rw [boolV, VR_v]⟩
         simp only [binOp, ne_eq, not_true_eq_false, if_false, Op.intArith, Op.intBits, Op.intCmp]
         rfl)
theorem strBin_sound {op : BinOp} {t : TypeId} {a b : ByteArray} {x : AV} (h : strBin op a b = some (true, x)) :
    ∃ u, (binOp op t (.string a) (.string b)).run P w = .ok u w ∧ VR φ L w x u := by
  cases op <;> simp only [strBin, Nat.ble_eq, Option.some.injEq, Prod.mk.injEq, reduceCtorEq] at h
  case add =>
    obtain ⟨h1, rfl⟩ := h
    refine ⟨_, ?_, by rw [VR_v]⟩
    simp only [binOp, Op.stringOp]
    rw [if_neg (by have : IntKind.i64.max = 9223372036854775807 := rfl; omega)]
    rfl
  all_goals
    first
      | exact absurd h False.elim
      | (obtain ⟨_, rfl⟩ := h
         refine ⟨_, ?_, by rw [boolV, VR_v]⟩
         simp only [binOp, Op.stringOp]
         rfl)
theorem run_partOf {e : TypeId} {i : TypeInfo} (hi : P.info? e = some i) {us : List Value} {off : Nat} (ha : isAggT P e = true) :
    (part e us.toArray off).run P w = .ok (.agg ((us.drop off).take (P.cellsOf e)).toArray) w := by
  unfold part
  rw [Sem.run_bind, run_isAgg_true ha]
  simp only [Result.andThen_ok, if_true]
  rw [Sem.run_bind, run_sizeOf _ hi]
  simp only [Result.andThen_ok, Sem.run_pure]
  congr 2
  apply Array.ext'
  simp only [Array.toList_extract, List.extract]
  rw [show off + P.cellsOf e - off = P.cellsOf e by omega]
theorem run_partOf1 {e : TypeId} {d : TypeDesc} (hu : P.underlying e = some d) (ha : isAggT P e = false) {us : List Value} {off : Nat} {u : Value} (h : us[off]? = some u) :
    (part e us.toArray off).run P w = .ok u w := by
  unfold part
  rw [Sem.run_bind, run_isAgg_false hu ha]
  simp [h]
theorem VRs_part {xs : List AV} {us : List Value} (h : VRs φ L w xs us) (off n : Nat) : VRs φ L w (partOf xs off n) ((us.drop off).take n) := by
  have hl := VRs_length h
  refine VRs_of (by simp [partOf, hl]) fun i c u hc hu => ?_
  simp only [partOf, List.getElem?_take, List.getElem?_drop] at hc hu
  split at hc
  · rename_i hi
    rw [if_pos hi] at hu
    obtain ⟨u', e, hv⟩ := VRs_get? h hc
    rw [hu] at e; cases e; exact hv
  · simp at hc
def EqAt (P : Program) (w : World) (D : Nat) (t : TypeId) (us vs : List Value) (b : Bool) : Prop :=
  (isAggT P t = true → (Op.equalIn D t (.agg us.toArray) (.agg vs.toArray)).run P w = .ok b w) ∧
  (isAggT P t = false → (∃ d, P.underlying t = some d) ∧ ∃ u v, us = [u] ∧ vs = [v] ∧ (Op.equalIn D t u v).run P w = .ok b w)
theorem eq_step {D : Nat} {e : TypeId} {i : TypeInfo} (hi : P.info? e = some i) {us vs : List Value} {off : Nat} {b : Bool} (h : EqAt P w D e ((us.drop off).take (P.cellsOf e)) ((vs.drop off).take (P.cellsOf e)) b) :
    ∃ x y, (part e us.toArray off).run P w = .ok x w ∧ (part e vs.toArray off).run P w = .ok y w ∧ (Op.equalIn D e x y).run P w = .ok b w := by
  by_cases ha : isAggT P e = true
  · exact ⟨_, _, run_partOf hi ha, run_partOf hi ha, h.1 ha⟩
  · have ha' : isAggT P e = false := by simpa using ha
    obtain ⟨⟨d, hd⟩, u, v, h1, h2, h3⟩ := h.2 ha'
    have hc : P.cellsOf e ≠ 0 := by intro h0; rw [h0] at h1; simp at h1
    have get : ∀ {zs : List Value} {z : Value}, (zs.drop off).take (P.cellsOf e) = [z] → zs[off]? = some z := fun {zs z} hz => by
      have h0 : ((zs.drop off).take (P.cellsOf e))[0]? = some z := by rw [hz]; rfl
      rw [List.getElem?_take_of_lt (by omega)] at h0
      simpa using h0
    exact ⟨u, v, run_partOf1 hd ha' (get h1), run_partOf1 hd ha' (get h2), h3⟩
theorem eqT_sound : ∀ (d : Nat) (t : TypeId) (xs ys : List AV) (us vs : List Value) (b : Bool), eqT P d t xs ys = some b → VRs φ L w xs us → VRs φ L w ys vs → ∀ D, d ≤ D → EqAt P w D t us vs b
  | 0, _, _, _, _, _, _, h, _, _, _, _ => by simp [eqT] at h
  | d + 1, t, xs, ys, us, vs, b, h, hx, hy, D, hD => by
    obtain ⟨D, rfl⟩ : ∃ m, D = m + 1 := ⟨D - 1, by omega⟩
    simp only [eqT] at h
    split at h
    · rename_i k hu
      have ha : isAggT P t = false := by simp [isAggT, hu]
      refine ⟨fun h' => (by rw [ha] at h'; cases h'), fun _ => ⟨⟨_, hu⟩, ?_⟩⟩
      unfold eqInt at h
      split at h
      · rename_i k1 a k2 c
        split at h
        · rename_i hk
          subst hk
          simp only [VRs, VR] at hx hy
          obtain ⟨_, _, rfl, rfl, rfl⟩ := hx
          obtain ⟨_, _, rfl, rfl, rfl⟩ := hy
          refine ⟨_, _, rfl, rfl, ?_⟩
          simp only [Option.some.injEq] at h
          subst h
          simp [Op.equalIn, run_underlying hu]
        · cases h
      · cases h
    · rename_i hu
      have ha : isAggT P t = false := by simp [isAggT, hu]
      refine ⟨fun h' => (by rw [ha] at h'; cases h'), fun _ => ⟨⟨_, hu⟩, ?_⟩⟩
      unfold eqBool at h
      split at h
      · simp only [VRs, VR] at hx hy
        obtain ⟨_, _, rfl, rfl, rfl⟩ := hx
        obtain ⟨_, _, rfl, rfl, rfl⟩ := hy
        refine ⟨_, _, rfl, rfl, ?_⟩
        simp only [Option.some.injEq] at h
        subst h
        simp [Op.equalIn, run_underlying hu]
      · cases h
    · rename_i hu
      have ha : isAggT P t = false := by simp [isAggT, hu]
      refine ⟨fun h' => (by rw [ha] at h'; cases h'), fun _ => ⟨⟨_, hu⟩, ?_⟩⟩
      unfold eqStr at h
      split at h
      · simp only [VRs, VR] at hx hy
        obtain ⟨_, _, rfl, rfl, rfl⟩ := hx
        obtain ⟨_, _, rfl, rfl, rfl⟩ := hy
        refine ⟨_, _, rfl, rfl, ?_⟩
        simp only [Option.some.injEq] at h
        subst h
        simp [Op.equalIn, run_underlying hu, beq_toListBytes]
      · cases h
    · rename_i n e hu
      have ha : isAggT P t = true := by simp [isAggT, hu]
      refine ⟨fun _ => ?_, fun h' => (by rw [ha] at h'; cases h')⟩
      split at h
      · cases h
      · rename_i hc
        obtain ⟨i, hi⟩ := info_of_cells hc
        rw [run_equalIn_array w D _ _ hu hi]
        generalize List.range n = is at h
        induction is generalizing b with
        | nil => simp only [eqItemsA, Option.some.injEq] at h; subst h; simp [Op.eqItems]
        | cons j is ih =>
          simp only [eqItemsA] at h
          split at h
          · rename_i b1 b2 e1 e2
            simp only [Option.some.injEq] at h
            subst h
            have h1 := eqT_sound d e _ _ _ _ _ e1 (VRs_part hx _ _) (VRs_part hy _ _) D (by omega)
            obtain ⟨x, y, r1, r2, r3⟩ := eq_step hi h1
            have h2 := ih b2 e2
            simp only [Op.eqItems, Sem.run_bind, r1, r2, r3, Result.andThen_ok]
            cases b1
            · simp
            · simpa using h2
          · cases h
    · rename_i fs hu
      have ha : isAggT P t = true := by simp [isAggT, hu]
      refine ⟨fun _ => ?_, fun h' => (by rw [ha] at h'; cases h')⟩
      split at h
      · cases h
      · rename_i hs
        have hf : P.fieldsOf t = fs := by simp [Program.fieldsOf, hu]
        rw [run_equalIn_struct w D t _ _ (by rw [hf]; exact hu) (by simpa using hs), hf]
        generalize fs.toList = l at h
        clear hf hu hs
        induction l generalizing b with
        | nil => simp only [eqFieldsA, Option.some.injEq] at h; subst h; simp [Op.eqFields]
        | cons f l ih =>
          simp only [eqFieldsA] at h
          split at h
          · cases h
          · rename_i hname
            split at h
            · rename_i b1 b2 e1 e2
              simp only [Option.some.injEq] at h
              subst h
              have h1 := eqT_sound d f.type _ _ _ _ _ e1 (VRs_part hx _ _) (VRs_part hy _ _) D (by omega)
              have hi : ∃ i, P.info? f.type = some i := by
                cases d with
                | zero => simp [eqT] at e1
                | succ d =>
                  simp only [eqT] at e1
                  cases hu : P.underlying f.type with
                  | none => simp [hu] at e1
                  | some dd => exact info_of_underlying hu
              obtain ⟨i, hi⟩ := hi
              obtain ⟨x, y, r1, r2, r3⟩ := eq_step hi h1
              have h2 := ih b2 e2
              simp only [Op.eqFields, ne_eq, hname, not_false_eq_true, if_true, Sem.run_bind, r1, r2, r3, Result.andThen_ok]
              cases b1
              · simp
              · simpa using h2
            · cases h
    · cases h
structure EqRuns (P : Program) (w : World) (t : TypeId) (x y : AV) (u v : Value) (b : Bool) : Prop where
  eql : (binOp .eql t u v).run P w = .ok (.bool b) w
  neq : (binOp .neq t u v).run P w = .ok (.bool (!b)) w
  guard : ∀ (op : BinOp) (X Y : Operand), (nilPair x y && !(isK X || isK Y)) = false → (eqGuard op t X Y u v).run P w = .ok () w
theorem EqRuns.mk' {t : TypeId} {x y : AV} {u v : Value} {b : Bool} (h : ∀ d : Nat, (Op.equalIn (d + 1) t u v).run P w = .ok b w)
    (he : binOp .eql t u v = (do pure (.bool (← Op.equal t u v)))) (hn : binOp .neq t u v = (do pure (.bool (!(← Op.equal t u v)))))
    (hg : ∀ (op : BinOp) (X Y : Operand), (nilPair x y && !(isK X || isK Y)) = false → (eqGuard op t X Y u v).run P w = .ok () w) : EqRuns P w t x y u v b := by
  have h9 : (Op.equal t u v).run P w = .ok b w := h 9999
  refine ⟨?_, ?_, hg⟩
  · rw [he, Sem.run_bind, h9]; rfl
  · rw [hn, Sem.run_bind, h9]; rfl
theorem guard_plain {op : BinOp} {t : TypeId} {X Y : Operand} {u v : Value} (h1 : (match u, v with | .nilIface, .nilIface => true | .agg _, .agg _ => true | _, _ => false) = false) : (eqGuard op t X Y u v).run P w = .ok () w := by
  cases op <;> unfold eqGuard <;> first
    | rfl
    | (simp only [Bool.not_true, Bool.false_eq_true, if_false]
       split <;> first | rfl | (simp at h1; done))
theorem eqA_sound {t : TypeId} {x y : AV} {u v : Value} {b : Bool} (h : eqA P t x y = some b) (hx : VR φ L w x u) (hy : VR φ L w y v) : EqRuns P w t x y u v b := by
  unfold eqA at h
  split at h
  · rename_i hu
    simp only [VR] at hx hy; subst hx; subst hy
    simp only [Option.some.injEq] at h; subst h
    exact .mk' (fun d => by simp [Op.equalIn, run_underlying hu]) rfl rfl fun _ _ _ _ => guard_plain rfl
  · rename_i hu
    simp only [VR] at hx hy; obtain ⟨s, _, _, rfl⟩ := hx; subst hy
    simp only [Option.some.injEq] at h; subst h
    exact .mk' (fun d => by simp [Op.equalIn, run_underlying hu]) rfl rfl fun _ _ _ _ => guard_plain rfl
  · rename_i hu
    simp only [VR] at hx hy; obtain ⟨s, _, _, rfl⟩ := hy; subst hx
    simp only [Option.some.injEq] at h; subst h
    exact .mk' (fun d => by simp [Op.equalIn, run_underlying hu]) rfl rfl fun _ _ _ _ => guard_plain rfl
  · rename_i hu
    simp only [VR] at hx hy; subst hx; subst hy
    simp only [Option.some.injEq] at h; subst h
    exact .mk' (fun d => by simp [Op.equalIn, run_underlying hu]) rfl rfl fun _ _ _ _ => guard_plain rfl
  · rename_i hu
    simp only [VR] at hx hy; obtain ⟨s, rfl, _⟩ := hx; subst hy
    simp only [Option.some.injEq] at h; subst h
    exact .mk' (fun d => by simp [Op.equalIn, run_underlying hu]) rfl rfl fun _ _ _ _ => guard_plain rfl
  · rename_i hu
    simp only [VR] at hx hy; subst hx; subst hy
    simp only [Option.some.injEq] at h; subst h
    refine .mk' (fun d => by simp [Op.equalIn, run_underlying hu]) rfl rfl fun op X Y hk => ?_
    cases op <;> unfold eqGuard <;> first
      | rfl
      | (simp only [Bool.not_true, Bool.false_eq_true, if_false]
         cases X <;> cases Y <;> first | rfl | (simp [nilPair, isK] at hk; done))
  · rename_i hu
    simp only [VR] at hx hy; obtain ⟨a', b', rfl, _⟩ := hx; subst hy
    simp only [Option.some.injEq] at h; subst h
    exact .mk' (fun d => by simp [Op.equalIn, run_underlying hu]) rfl rfl fun _ _ _ _ => guard_plain rfl
  · rename_i hu
    simp only [VR] at hx hy; subst hx; subst hy
    simp only [Option.some.injEq] at h; subst h
    exact .mk' (fun d => by simp [Op.equalIn, run_underlying hu]) rfl rfl fun _ _ _ _ => guard_plain rfl
  · rename_i hu
    simp only [VR] at hx hy; subst hx; subst hy
    simp only [Option.some.injEq] at h; subst h
    exact .mk' (fun d => by simp [Op.equalIn, run_underlying hu]) rfl rfl fun _ _ _ _ => guard_plain rfl
  · split at h
    · rename_i hh
      simp only [VR] at hx hy
      obtain ⟨us, rfl, hx⟩ := hx
      obtain ⟨vs, rfl, hy⟩ := hy
      have h9 : (Op.equal t (.agg us) (.agg vs)).run P w = .ok b w := (eqT_sound 9 t _ _ _ _ _ h hx hy 10000 (by omega)).1 hh.1
      refine ⟨?_, ?_, fun op X Y _ => ?_⟩
      · show Sem.run P (do pure (Value.bool (← Op.equal t (.agg us) (.agg vs))) : Sem Value) w = _
        rw [Sem.run_bind, h9]; rfl
      · show Sem.run P (do pure (Value.bool (!(← Op.equal t (.agg us) (.agg vs)))) : Sem Value) w = _
        rw [Sem.run_bind, h9]; rfl
      · cases op <;> unfold eqGuard <;> first
          | rfl
          | simp [program, Sem.run, hh.2]
    · cases h
  · cases h
theorem binA_sound {op : BinOp} {t : TypeId} {x y r : AV} {u v : Value} {X Y : Operand} (h : binA P op t x y = some (true, r)) (hx : VR φ L w x u) (hy : VR φ L w y v) (hk : (nilPair x y && !(isK X || isK Y)) = false) :
    ∃ z, (do eqGuard op t X Y u v; binOp op t u v).run P w = .ok z w ∧ VR φ L w r z := by
  have seq : ∀ {z}, (eqGuard op t X Y u v).run P w = .ok () w → (binOp op t u v).run P w = .ok z w → (do eqGuard op t X Y u v; binOp op t u v).run P w = .ok z w := fun {z} h1 h2 => by
    rw [Sem.run_bind, h1]; exact h2
  unfold binA at h
  split at h
  · simp only [VR] at hx hy; subst hx; subst hy
    simp only [Option.some.injEq, Prod.mk.injEq, decide_eq_true_eq] at h
    obtain ⟨h1, rfl⟩ := h
    refine ⟨_, seq (guard_plain rfl) ?_, by rw [intV, VR_v]⟩
    simp only [binOp, Op.shift]
    rw [if_neg (by omega)]; rfl
  · simp only [VR] at hx hy; subst hx; subst hy
    simp only [Option.some.injEq, Prod.mk.injEq, decide_eq_true_eq] at h
    obtain ⟨h1, rfl⟩ := h
    refine ⟨_, seq (guard_plain rfl) ?_, by rw [intV, VR_v]⟩
    simp only [binOp, Op.shift]
    rw [if_neg (by omega)]; rfl
  · simp only [VR] at hx hy; subst hx; subst hy
    split at h
    · rename_i hk; subst hk
      obtain ⟨z, h1, h2⟩ := intBin_sound (φ := φ) (L := L) (w := w) (P := P) (t := t) h
      exact ⟨z, seq (guard_plain rfl) h1, h2⟩
    · cases h
  · simp only [VR] at hx hy; subst hx; subst hy
    obtain ⟨z, h1, h2⟩ := strBin_sound (φ := φ) (L := L) (w := w) (P := P) (t := t) h
    exact ⟨z, seq (guard_plain rfl) h1, h2⟩
  · simp only [Option.map_eq_some_iff, Prod.mk.injEq, true_and] at h
    obtain ⟨b, hb, rfl⟩ := h
    have := eqA_sound hb hx hy
    exact ⟨.bool b, seq (this.guard _ _ _ hk) this.eql, by rw [boolV, VR_v]⟩
  · simp only [Option.map_eq_some_iff, Prod.mk.injEq, true_and] at h
    obtain ⟨b, hb, rfl⟩ := h
    have := eqA_sound hb hx hy
    exact ⟨.bool (!b), seq (this.guard _ _ _ hk) this.neq, by rw [boolV, VR_v]⟩
  · cases h
theorem unA_sound {op : UnOp} {x r : AV} {u : Value} (h : unA op x = some r) (hx : VR φ L w x u) : ∃ z, (Op.unary op u).run P w = .ok z w ∧ VR φ L w r z := by
  unfold unA at h
  split at h
  · simp only [VR] at hx; subst hx
    simp only [Option.some.injEq] at h; subst h
    exact ⟨_, rfl, by rw [intV, VR_v]⟩
  · simp only [VR] at hx; subst hx
    simp only [Option.some.injEq] at h; subst h
    exact ⟨_, rfl, by rw [intV, VR_v]⟩
  · simp only [VR] at hx; subst hx
    simp only [Option.some.injEq] at h; subst h
    exact ⟨_, rfl, by rw [boolV, VR_v]⟩
  · cases h
end Go.Abs
end
section
namespace Go.Abs
open Go
variable {P : Program} {φ : Emb} {σ : Nat → AObj} {L : Nat → Prop} {w : World} {nx : Nat}
theorem VR_int {x : AV} {k : IntKind} {n : Int} {u : Value} (hx : x = .v (.int k n)) (h : VR φ L w x u) : u = .int k n := by
  subst hx; simpa [VR] using h
structure Elems (φ : Emb) (L : Nat → Prop) (w : World) (d : Nat) (u : Value) (es : List (List AV)) : Prop where
  pure : ∀ e, e ∈ es → pureL e = true ∧ e.length = d
  run : (∃ a cap, u = .slice a 0 cap ∧ es = []) ∨ (∃ s : ByteArray, u = .string s ∧ d = 1 ∧ es = s.data.toList.map fun b => [.v (.int .u8 b.toNat)]) ∨
    (∃ b o cap : Nat, u = .slice (some ⟨b, o, none⟩) es.length cap ∧ VRe φ L w d es b o)
theorem VRe_pure' {sz : Nat} {es : List (List AV)} {b o : Nat} (h : VRe φ L w sz es b o) : ∀ e, e ∈ es → pureL e = true ∧ e.length = sz := fun e he => by
  obtain ⟨i, hi⟩ := List.mem_iff_getElem?.1 he
  have := VRe_iff.1 h i e hi
  exact ⟨this.2.1, this.1⟩
theorem row_parts (hr : Rel φ σ w) {i : Nat} {sz : Nat} {es : List (List AV)} (he : σ i = .row sz es ∨ σ i = .frow sz es) {s : Slot} (hs : φ i = some s) :
    s.sz = sz ∧ s.n = es.length ∧ (es = [] ∧ s.real = false ∨ s.real = true ∧ s.b < w.heap.size ∧ VRe φ (Lv φ σ) w sz es s.b s.o) := by
  have hob := hr.obj i
  rcases he with he | he
  · rw [he] at hob
    obtain ⟨s', e1, h1, h2, h3 | ⟨h3, h4, h5, h6⟩⟩ := hob
    · rw [hs] at e1; cases e1; exact ⟨h1, h2, .inl h3⟩
    · rw [hs] at e1; cases e1
      obtain ⟨c, t, fr, hh, _⟩ := h4
      exact ⟨h1, h2, .inr ⟨h3, (Array.getElem?_eq_some_iff.1 hh).1, h6⟩⟩
  · rw [he] at hob
    obtain ⟨s', e1, h1, h2, h3 | ⟨h3, h4, h5, h6⟩⟩ := hob
    · rw [hs] at e1; cases e1; exact ⟨h1, h2, .inl h3⟩
    · rw [hs] at e1; cases e1; exact ⟨h1, h2, .inr ⟨h3, h5, h6⟩⟩
theorem elems_sound (hr : Rel φ σ w) {d : Nat} {x : AV} {u : Value} {es : List (List AV)} (h : elemsIn σ d x = some (true, es)) (hx : VR φ (Lv φ σ) w x u) : Elems φ (Lv φ σ) w d u es := by
  have whole : ∀ i sz es, (σ i = .row sz es ∨ σ i = .frow sz es) → sz = d → VR φ (Lv φ σ) w (.wref i) u → Elems φ (Lv φ σ) w d u es := by
    intro i sz es he hd hv
    subst hd
    simp only [VR] at hv
    obtain ⟨s, hs, hu⟩ := hv
    obtain ⟨h1, h2, h3⟩ := row_parts hr he hs
    rcases hu with ⟨hreal, cap, rfl, _⟩ | ⟨hn, a, rfl⟩
    · rcases h3 with ⟨_, h3⟩ | ⟨_, _, h3⟩
      · rw [hreal] at h3; cases h3
      · exact ⟨VRe_pure' h3, .inr (.inr ⟨s.b, s.o, cap, by rw [h2], h3⟩)⟩
    · have : es = [] := List.length_eq_zero_iff.1 (by omega)
      subst this
      exact ⟨by simp, .inl ⟨a, 0, rfl, rfl⟩⟩
  have part : ∀ i off n sz es, (σ i = .row sz es ∨ σ i = .frow sz es) → sz = d → VR φ (Lv φ σ) w (.sref i off n) u → Elems φ (Lv φ σ) w d u ((es.drop off).take n) := by
    intro i off n sz es he hd hv
    subst hd
    simp only [VR] at hv
    obtain ⟨s, hs, hle, hu⟩ := hv
    obtain ⟨h1, h2, h3⟩ := row_parts hr he hs
    have hlen : ((es.drop off).take n).length = n := by simp; omega
    rcases hu with ⟨hreal, cap, rfl, _⟩ | ⟨hn, a, rfl⟩
    · rcases h3 with ⟨_, h3⟩ | ⟨_, _, h3⟩
      · rw [hreal] at h3; cases h3
      · have h4 := VRe_take (VRe_drop h3 off) n
        exact ⟨VRe_pure' h4, .inr (.inr ⟨s.b, s.o + off * s.sz, cap, by rw [hlen], by rw [h1]; exact h4⟩)⟩
    · subst hn
      refine ⟨by simp, .inl ⟨a, 0, rfl, by simp⟩⟩
  unfold elemsIn at h
  split at h
  · simp only [Option.some.injEq, Prod.mk.injEq, true_and] at h; subst h
    rw [VR_v] at hx; subst hx
    exact ⟨by simp, .inl ⟨none, 0, rfl, rfl⟩⟩
  · rename_i s
    split at h
    · rename_i hd
      simp only [Option.some.injEq, Prod.mk.injEq, true_and] at h; subst h
      rw [VR_v] at hx; subst hx
      refine ⟨fun e he => ?_, .inr (.inl ⟨s, rfl, hd, rfl⟩)⟩
      simp only [List.mem_map] at he
      obtain ⟨b, _, rfl⟩ := he
      exact ⟨rfl, hd.symm⟩
    · cases h
  · rename_i sz es'
    split at h
    · rename_i hd
      simp only [Option.some.injEq, Prod.mk.injEq, true_and] at h; subst h; subst hd
      simp only [VR] at hx
      obtain ⟨a, cap, rfl, _, h | ⟨b, o, rfl, _, _, h⟩⟩ := hx
      · subst h; exact ⟨by simp, .inl ⟨a, cap, rfl, rfl⟩⟩
      · exact ⟨VRe_pure' h, .inr (.inr ⟨b, o, cap, rfl, h⟩)⟩
    · cases h
  · rename_i i
    split at h
    · rename_i sz es' hs
      split at h
      · rename_i hd
        simp only [Option.some.injEq, Prod.mk.injEq, true_and] at h; subst h
        exact whole i sz _ (.inl hs) hd hx
      · cases h
    · rename_i sz es' hs
      split at h
      · rename_i hd
        simp only [Option.some.injEq, Prod.mk.injEq, true_and] at h; subst h
        exact whole i sz _ (.inr hs) hd hx
      · cases h
    · cases h
  · rename_i i off n
    split at h
    · rename_i sz es' hs
      split at h
      · rename_i hd
        simp only [Option.some.injEq, Prod.mk.injEq, true_and] at h; subst h
        exact part i off n sz _ (.inl hs) hd hx
      · cases h
    · rename_i sz es' hs
      split at h
      · rename_i hd
        simp only [Option.some.injEq, Prod.mk.injEq, true_and] at h; subst h
        exact part i off n sz _ (.inr hs) hd hx
      · cases h
    · cases h
  · rename_i i off n
    split at h
    · rename_i cs hs
      split at h
      · rename_i hd
        subst hd
        simp only [Option.some.injEq, Prod.mk.injEq, Bool.and_eq_true, decide_eq_true_eq] at h
        obtain ⟨⟨h1, h2⟩, rfl⟩ := h
        simp only [VR] at hx
        obtain ⟨s, hsl, hreal, hu⟩ := hx
        have hob := hr.obj i
        rw [hs] at hob
        obtain ⟨s', e1, _, _, h4, h5⟩ := hob
        rw [hsl] at e1; cases e1
        have hlen : (((cs.drop off).take n).map fun c => [c]).length = n := by simp; omega
        have hpure : ∀ e, e ∈ ((cs.drop off).take n).map (fun c => [c]) → pureL e = true ∧ e.length = 1 := fun e he => by
          simp only [List.mem_map] at he
          obtain ⟨c, hc, rfl⟩ := he
          obtain ⟨j, hj⟩ := List.mem_iff_getElem?.1 hc
          exact ⟨by simp [pureL, pureL_getElem? h2 hj], rfl⟩
        rcases hu with ⟨cap, rfl, _⟩ | ⟨hn, a, rfl⟩
        · refine ⟨hpure, .inr (.inr ⟨s.b, s.o + off, cap, by rw [hlen], ?_⟩)⟩
          rw [VRe_iff]
          intro j e he
          simp only [List.getElem?_map, Option.map_eq_some_iff] at he
          obtain ⟨c, hc, rfl⟩ := he
          refine ⟨rfl, by simp [pureL, pureL_getElem? h2 hc], ?_⟩
          have := VRc_iff.1 (VRc_take (VRc_drop h5 off) n) j c hc
          simp only [VRc, and_true, Nat.mul_one]
          exact this
        · subst hn
          exact ⟨hpure, .inl ⟨a, 0, rfl, by simp⟩⟩
      · cases h
    · cases h
  · cases h
theorem VRe_flat {d : Nat} : ∀ {es : List (List AV)} {b o : Nat}, VRe φ L w d es b o → VRc φ L w es.flatten b o
  | [], _, _, _ => by simp [VRc]
  | e :: es, b, o, h => by
    simp only [VRe] at h
    simp only [List.flatten_cons]
    exact VRc_append h.2.2.1 (by rw [h.1]; exact VRe_flat h.2.2.2)
theorem flat_length {d : Nat} : ∀ {es : List (List AV)}, (∀ e, e ∈ es → pureL e = true ∧ e.length = d) → es.flatten.length = es.length * d
  | [], _ => by simp
  | e :: es, h => by
    have h1 := h e (by simp)
    have h2 := flat_length (es := es) fun e he => h e (by simp [he])
    simp only [List.flatten_cons, List.length_append, List.length_cons, h1.2, h2, Nat.add_mul]; omega
theorem elems_cells {d : Nat} {u : Value} {es : List (List AV)} (h : Elems φ L w d u es) :
    (Builtin.lenOf u).run P w = .ok es.length w ∧ ∃ us : List Value, (Builtin.firstCells d es.length u).run P w = .ok us.toArray w ∧ VRs φ L w es.flatten us ∧ (∀ v ∈ us, oneV v = true) ∧ us.length = es.length * d := by
  have hfl := flat_length h.pure
  rcases h.run with ⟨a, cap, rfl, rfl⟩ | ⟨s, rfl, hd, rfl⟩ | ⟨b, o, cap, rfl, hv⟩
  · refine ⟨rfl, [], ?_, by simp [VRs], by simp, by simp⟩
    cases a with
    | none => rfl
    | some a => simp [Builtin.firstCells, loadCells, loadCellsFrom]
  · subst hd
    refine ⟨by simp [Builtin.lenOf], s.data.toList.map fun b => .int .u8 b.toNat, ?_, ?_, ?_, by simp⟩
    · simp only [Builtin.firstCells, List.length_map, Array.length_toList, Sem.run_pure]
      congr 1
      apply Array.ext'
      have : (s.extract 0 s.data.size) = s := by
        apply ByteArray.ext
        simp
      rw [this]; simp
    · have : ∀ (l : List UInt8), VRs φ L w (l.map fun b => ([.v (.int .u8 b.toNat)] : List AV)).flatten (l.map fun b => .int .u8 b.toNat) := by
        intro l
        induction l with
        | nil => simp [VRs]
        | cons b l ih =>
          simp only [List.map_cons, List.flatten_cons, List.singleton_append, VRs]
          exact ⟨_, _, rfl, by simp [VR], ih⟩
      exact this _
    · intro v hv
      simp only [List.mem_map] at hv
      obtain ⟨b, _, rfl⟩ := hv
      rfl
  · have hc := VRe_flat hv
    obtain ⟨us, hrun, h1, h2⟩ := run_loadCells_VRc (P := P) hc
    refine ⟨rfl, us, ?_, h1, h2, by rw [VRs_length h1, hfl]⟩
    rw [hfl] at hrun
    simpa [Builtin.firstCells] using hrun
end Go.Abs
end
section
namespace Go.Abs
open Go
variable {P : Program} {φ : Emb} {σ : Nat → AObj} {L : Nat → Prop} {w : World} {nx : Nat}
theorem fold_set (off : Nat) : ∀ (cs : List Value) (n : Nat) (c : Array Value), (cs.zipIdx n).foldl (fun (c : Array Value) (p : Value × Nat) => c.setIfInBounds (off + p.2) p.1) c = setA c (off + n) cs
  | [], _, _ => rfl
  | v :: cs, n, c => by
    simp only [List.zipIdx_cons, List.foldl_cons, setA]
    rw [fold_set off cs (n + 1)]
    rw [show off + (n + 1) = off + n + 1 by omega]
theorem VRs_setL : ∀ {xs : List AV} {us : List Value}, VRs φ L w xs us → ∀ {cs : List AV} {c : Array Value} (i : Nat), VRs φ L w cs c.toList → VRs φ L w (setL cs i xs) (setA c i us).toList
  | [], us, h, cs, c, i, hc => by simp only [VRs] at h; subst h; exact hc
  | x :: xs, us, h, cs, c, i, hc => by
    simp only [VRs] at h
    obtain ⟨u, us', rfl, h1, h2⟩ := h
    simp only [setL, setA]
    refine VRs_setL h2 (i + 1) ?_
    rw [Array.toList_setIfInBounds]
    exact VRs_set hc i h1
theorem fill_sound {place : Nat → Option (Nat × Nat)} {ρ : Operand → AV} {ev : Operand → Value} (hρ : ∀ y, VR φ L w (ρ y) (ev y)) : ∀ (parts : List (Nat × Operand)) {cs : List AV} {c : Array Value} {r : List AV},
    fillL place cs (parts.map fun p => (p.1, ρ p.2)) = some r → VRs φ L w cs c.toList →
    ∃ c' : Array Value, Instr.fill place c (parts.map fun p => (p.1, ev p.2)) = some c' ∧ VRs φ L w r c'.toList
  | [], cs, c, r, h, hc => by
    simp only [List.map_nil, fillL, Option.some.injEq] at h; subst h
    exact ⟨c, rfl, hc⟩
  | (i, y) :: parts, cs, c, r, h, hc => by
    simp only [List.map_cons, fillL] at h
    cases hp : place i with
    | none => simp [hp] at h
    | some os =>
      obtain ⟨off, size⟩ := os
      simp only [hp] at h
      split at h
      · rename_i hh
        obtain ⟨h1, h2, h3⟩ := hh
        obtain ⟨hv, _⟩ := VR_cells (hρ y) h3
        have hl := VRs_length hv
        have hlc := VRs_length hc
        have hnew := VRs_setL hv off hc
        obtain ⟨c', e1, e2⟩ := fill_sound hρ parts h hnew
        refine ⟨c', ?_, e2⟩
        simp only [List.map_cons, Instr.fill, hp]
        have hsz : (ev y).cells.size = size := by rw [← h1, ← hl]; simp
        have hcs : c.size = cs.length := by rw [← hlc]; simp
        rw [if_neg (by simp [hsz, hcs]; omega)]
        rw [← e1]
        congr 1
        have := fold_set off (ev y).cells.toList 0 c
        rw [show off + 0 = off from rfl] at this
        rw [← this, ← Array.foldl_toList, Array.toList_zipIdx]
      · cases h
theorem run_build {t : TypeId} {parts : Array (Nat × Operand)} {ρ : Operand → AV} {ev : Operand → Value} (hρ : ∀ y, VR φ L w (ρ y) (ev y)) {x : AV} {wr : List (Nat × AObj)} {lk : Nat → AObj}
    (h : opA P ρ lk nx (.build t parts) = some (true, x, wr)) : ∃ u, (Instr.build t (parts.map fun (i, x) => (i, ev x))).run P w = .ok u w ∧ VR φ L w x u ∧ wr = [] := by
  simp only [opA] at h
  have hm : (parts.map fun (p : Nat × Operand) => match p with | (i, x) => (i, ev x)).toList = parts.toList.map fun p => (p.1, ev p.2) := by simp
  split at h
  · rename_i fs z hu hz
    obtain ⟨i, zv, hi, hzv, rfl⟩ := info_of_zero hz
    split at h
    · cases h
    rename_i hall
    simp only [Option.map_eq_some_iff, Prod.mk.injEq, true_and] at h
    obtain ⟨cs, hcs, rfl, rfl⟩ := h
    obtain ⟨c', e1, e2⟩ := fill_sound hρ parts.toList (c := zv.cells) hcs (VRs_consts _)
    refine ⟨.agg c', ?_, by simp only [VR]; exact ⟨c', rfl, e2⟩, rfl⟩
    have hmap : ∀ (l : List Field), (∀ f ∈ l, ∃ i, P.info? f.type = some i) → Sem.run P (l.mapM fun f => (do pure (f.offset, ← sizeOf f.type) : Sem (Nat × Nat))) w = .ok (l.map fun f => (f.offset, P.cellsOf f.type)) w := by
      intro l
      induction l with
      | nil => intro _; rfl
      | cons f l ih =>
        intro hf
        obtain ⟨i, hi⟩ := hf f (by simp)
        rw [List.mapM_cons, Sem.run_bind, Sem.run_bind, run_sizeOf _ hi]
        simp only [Result.andThen_ok, Sem.run_pure]
        rw [Sem.run_bind, ih fun f' hf' => hf f' (by simp [hf'])]
        rfl
    have hfs := hmap fs.toList fun f hf => by
      have : (fs.toList.all fun f => (P.info? f.type).isSome) = true := (Bool.not_eq_false _).mp hall
      exact Option.isSome_iff_exists.1 (List.all_eq_true.1 this f hf)
    unfold Instr.build
    rw [Sem.run_bind, run_zeroValue hi hzv]
    simp only [Result.andThen_ok]
    rw [Sem.run_bind, run_underlying hu]
    simp only [Result.andThen_ok]
    rw [Sem.run_bind, Array.mapM_eq_mapM_toList, Sem.run_map, hfs]
    simp only [Result.andThen_ok]
    have hpl : (fun (x : Nat) => (fs.toList.map fun f => (f.offset, P.cellsOf f.type)).toArray[x]?) = fun i => (fs[i]?).map fun f => (f.offset, P.cellsOf f.type) := by
      funext i
      simp
    rw [hpl, hm, e1]
    rfl
  · rename_i n e z hu hz
    obtain ⟨i, zv, hi, hzv, rfl⟩ := info_of_zero hz
    split at h
    · cases h
    rename_i hc
    obtain ⟨ie, hie⟩ := info_of_cells hc
    simp only [Option.map_eq_some_iff, Prod.mk.injEq, true_and] at h
    obtain ⟨cs, hcs, rfl, rfl⟩ := h
    obtain ⟨c', e1, e2⟩ := fill_sound hρ parts.toList (c := zv.cells) hcs (VRs_consts _)
    refine ⟨.agg c', ?_, by simp only [VR]; exact ⟨c', rfl, e2⟩, rfl⟩
    unfold Instr.build
    rw [Sem.run_bind, run_zeroValue hi hzv]
    simp only [Result.andThen_ok]
    rw [Sem.run_bind, run_underlying hu]
    simp only [Result.andThen_ok]
    rw [Sem.run_bind, run_sizeOf _ hie]
    simp only [Result.andThen_ok]
    rw [hm, e1]
    rfl
  · cases h
theorem newRow_res (hr : Rel φ σ w) (hn : φ nx = none) (hd : σ nx = .dead) {d cap : Nat} {es : List (List AV)} {c : Array Value} (hp : ∀ e, e ∈ es → pureL e = true ∧ e.length = d) {us : List Value}
    (hv : VRs φ (Lv φ σ) w es.flatten us) (h1 : ∀ v ∈ us, oneV v = true) (hc : ∀ (i : Nat) u, us[i]? = some u → c[i]? = some u) (hcap : es.length ≤ cap) (hsz : cap * d ≤ c.size) (t : TypeId) (fr : Nat × Nat) (hf : ∀ k, k < c.size → ¬ (fr.1 ≤ k ∧ k < fr.2)) :
    ∃ φ', Res φ σ w nx [(nx, .row d es)] (.wref nx) (.slice (some ⟨w.heap.size, 0, none⟩) es.length cap) φ' (w.alloc (.cells c t fr)) := by
  have hfl := flat_length hp
  have hl := VRs_length hv
  refine ⟨setS φ nx ⟨w.heap.size, 0, d, es.length, c.size, true⟩, Res.fresh hr hn hd c t fr _ _ rfl _ _ fun L hL hnew hm => ⟨⟨_, rfl, rfl, rfl, .inr ⟨rfl, ⟨c, t, fr, hnew, rfl, hf⟩, ?_, ?_⟩⟩, ?_⟩⟩
  · have := Nat.mul_le_mul_right d hcap
    simp; omega
  · rw [VRe_iff]
    intro i e he
    have hmem := hp e (List.mem_of_getElem? he)
    refine ⟨hmem.2, hmem.1, ?_⟩
    rw [VRc_block hnew]
    intro j y hy
    have hi : i < es.length := by
      rcases Nat.lt_or_ge i es.length with h' | h'
      · exact h'
      · rw [List.getElem?_eq_none h'] at he; cases he
    have hj : j < d := by
      rw [← hmem.2]
      rcases Nat.lt_or_ge j e.length with h' | h'
      · exact h'
      · rw [List.getElem?_eq_none h'] at hy; cases hy
    have hflat : ∀ (es : List (List AV)) (i : Nat), (∀ e, e ∈ es → pureL e = true ∧ e.length = d) → es[i]? = some e → es.flatten[i * d + j]? = some y := by
      intro es
      induction es with
      | nil => intro i _ h; simp at h
      | cons f es ih =>
        intro i hp h
        have hf := hp f (by simp)
        cases i with
        | zero =>
          simp at h; subst h
          simp only [List.flatten_cons]
          rw [List.getElem?_append_left (by omega)]
          simpa using hy
        | succ i =>
          simp only [List.flatten_cons]
          rw [List.getElem?_append_right (by rw [hf.2, Nat.add_mul]; omega)]
          rw [show (i + 1) * d + j - f.length = i * d + j by rw [hf.2, Nat.add_mul]; omega]
          exact ih i (fun e he => hp e (by simp [he])) (by simpa using h)
    obtain ⟨u, hu, hvu⟩ := VRs_get? hv (hflat es i hp he)
    exact ⟨u, by simpa using hc _ _ hu, h1 u (List.mem_of_getElem? hu), hm _ _ hvu⟩
  · simp only [VR]
    exact ⟨_, setS_same _ _, .inl ⟨rfl, cap, rfl, hcap, by simpa using hsz⟩⟩
theorem noRow_res (hr : Rel φ σ w) (hn : φ nx = none) (hd : σ nx = .dead) (d : Nat) {u : Value} (hu : ∃ a, u = .slice a 0 0) :
    ∃ φ', Res φ σ w nx [(nx, .row d [])] (.wref nx) u φ' w := by
  refine ⟨setS φ nx ⟨0, 0, d, 0, 0, false⟩, setS_le hn _, Keep.refl _ _, ?_, ?_, ?_, fun i hi => setS_other (hi.resolve_right (by simp)) _, fun _ _ => rfl⟩
  · have hupd : updF σ [(nx, .row d [])] = fun i => if i = nx then .row d [] else σ i := rfl
    refine hr.upd (fun i => i = nx) (setS_le hn _) (Keep.refl _ _) (fun i hi => ⟨by rw [hupd]; simp [hi], setS_other hi _⟩) (fun _ _ _ _ _ _ => rfl) (fun i s hi _ e hreal => ?_) (fun i j s1 s2 hi hj _ _ _ _ _ _ _ => hi.trans hj.symm) (fun i hi => ?_)
    · subst hi; rw [setS_same] at e; cases e; cases hreal
    · subst hi; rw [hupd]; simp only [if_true, setS_same]
      exact ⟨_, rfl, rfl, rfl, .inl ⟨rfl, rfl⟩⟩
  · simp only [VR]
    exact ⟨_, setS_same _ _, .inr ⟨rfl, hu⟩⟩
  · rintro b (hF | ⟨i, s, h1, h2, h3, rfl⟩)
    · exact .inl (.inl hF)
    by_cases hi : i = nx
    · subst hi; rw [setS_same] at h2; cases h2; cases h3
    · rw [setS_other hi] at h2
      have hupd : updF σ [(nx, .row d [])] = fun i => if i = nx then .row d [] else σ i := rfl
      rw [hupd] at h1; simp only [hi, if_false] at h1
      exact .inl (.inr ⟨i, s, h1, h2, h3, rfl⟩)
end Go.Abs
end
section
namespace Go.Abs
open Go
variable {P : Program} {φ : Emb} {σ : Nat → AObj} {L : Nat → Prop} {w : World} {nx : Nat}
theorem zero_pure (vs : List Value) : pureL (vs.map .v) = true := by
  induction vs with
  | nil => rfl
  | cons v vs ih => simp [pureL, pureA, ih]
theorem oneL_consts {vs : List Value} (h : oneL (vs.map .v) = true) : ∀ v ∈ vs, oneV v = true := fun v hv => by
  obtain ⟨j, hj⟩ := List.mem_iff_getElem?.1 hv
  have := oneL_getElem? h (i := j) (c := .v v) (by simp [hj])
  simpa [oneA] using this
theorem zeros_get {z : Array Value} {n : Nat} (hz : z.size ≠ 0) (i : Nat) (h : i < n * z.size) :
    ((Array.range (n * z.size)).map fun i => z[i % z.size]!)[i]? = some (z.toList.getD (i % z.size) undef) := by
  have hm : i % z.size < z.size := Nat.mod_lt _ (by omega)
  rw [Array.getElem?_map, Array.getElem?_range, if_pos h]
  simp only [Option.map_some, Option.some.injEq]
  rw [getElem!_pos z _ hm]
  simp [List.getD, hm]
def zrow (n : Nat) (z : Array Value) : Array Value := (Array.range n).map fun i => z[i % z.size]!
theorem replicate_flat_get {z : List Value} : ∀ (n i : Nat), i < n * z.length → (List.replicate n z).flatten[i]? = z[i % z.length]?
  | 0, i, h => by simp at h
  | n + 1, i, h => by
    rw [List.replicate_succ, List.flatten_cons]
    rcases Nat.lt_or_ge i z.length with hi | hi
    · rw [List.getElem?_append_left hi, Nat.mod_eq_of_lt hi]
    · rw [List.getElem?_append_right hi, replicate_flat_get n (i - z.length) (by rw [Nat.add_mul] at h; omega)]
      rw [Nat.mod_eq_sub_mod hi]
theorem makeSlice_sound (hr : Rel φ σ w) (hn : φ nx = none) (hd : σ nx = .dead) {t : TypeId} {ρ : Operand → AV} {ev : Operand → Value} (hρ : ∀ y, VR φ (Lv φ σ) w (ρ y) (ev y)) {l c : Operand} {x : AV} {wr : List (Nat × AObj)}
    (h : opA P ρ σ nx (.makeSlice t l c) = some (true, x, wr)) : ∃ φ' u w', (Instr.makeSlice t (ev l) (ev c)).run P w = .ok u w' ∧ Res φ σ w nx wr x u φ' w' := by
  simp only [opA] at h
  split at h
  case h_2 => cases h
  rename_i e k1 n k2 m hu hl hc
  have hl' := VR_int hl (hρ l)
  have hc' := VR_int hc (hρ c)
  split at h
  case h_2 => cases h
  rename_i z hz
  obtain ⟨i, zv, hi, hzv, rfl⟩ := info_of_zero hz
  split at h
  case isFalse => cases h
  rename_i hh
  simp only [Option.some.injEq, Prod.mk.injEq, Bool.and_eq_true, decide_eq_true_eq] at h
  obtain ⟨⟨h1, h2, h3⟩, rfl, rfl⟩ := h
  have hb : (P.bytesOf e : Int) = i.bytes := by simp [Program.bytesOf, hi]
  rw [hb] at h3
  obtain ⟨n', rfl⟩ := Int.eq_ofNat_of_zero_le h1
  obtain ⟨m', rfl⟩ := Int.eq_ofNat_of_zero_le (Int.le_trans h1 h2)
  have hmb : ((m' : Int)) * i.bytes + m' ≤ 2 ^ 46 := by
    have : (m' : Int) * (i.bytes + 1) = m' * i.bytes + m' := by rw [Int.mul_add, Int.mul_one]
    omega
  have hm0 : (0 : Int) ≤ (m' : Int) * i.bytes := Int.mul_nonneg (by omega) (by omega)
  have hnb : (n' : Int) * i.bytes ≤ m' * i.bytes := Int.mul_le_mul_of_nonneg_right h2 (by omega)
  have hw1 : IntKind.i64.wrap (n' : Int) = n' := by simp [IntKind.wrap, IntKind.bits, IntKind.signed]; omega
  have hw2 : IntKind.i64.wrap (m' : Int) = m' := by simp [IntKind.wrap, IntKind.bits, IntKind.signed]; omega
  have hlen : zv.cells.toList.length = P.cellsOf e := by simpa using hh.1
  have hsz : zv.cells.size = P.cellsOf e := by simpa using hlen
  have hpure : ∀ e', e' ∈ List.replicate n' (zv.cells.toList.map AV.v) → pureL e' = true ∧ e'.length = P.cellsOf e := fun e' he => by
    rw [List.eq_of_mem_replicate he]
    exact ⟨zero_pure _, by simpa using hlen⟩
  have hone := oneL_consts hh.2
  have hflat : VRs φ (Lv φ σ) w (List.replicate n' (zv.cells.toList.map AV.v)).flatten (List.replicate n' zv.cells.toList).flatten := by
    clear hpure h1 h2 h3 hw1 hnb hl' hl
    induction n' with
    | zero => simp [VRs]
    | succ n ih => simp only [List.replicate_succ, List.flatten_cons]; exact VRs_append (VRs_consts _) ih
  have hrun : (Instr.makeSlice t (ev l) (ev c)).run P w = .ok (.slice (some ⟨w.heap.size, 0, none⟩) n' m') (w.alloc (.cells (zrow (m' * P.cellsOf e) (if m' * P.cellsOf e = 0 then #[] else zv.cells)) e)) := by
    unfold Instr.makeSlice
    rw [hl', hc']
    simp only [Sem.run_bind, run_underlying hu, Result.andThen_ok, asInt, asIntOf, Sem.run_pure, run_typeInfo hi, hw1, hw2]
    have t1 : ¬ ((decide ((m' : Int) < 0) || decide ((i.bytes : Int) * m' > 2 ^ 48)) = true) := by
      simp only [Bool.or_eq_true, decide_eq_true_eq, not_or]
      rw [Int.mul_comm]
      constructor <;> omega
    have t2 : ¬ ((n' : Int) < 0) := by omega
    have t3 : ¬ ((n' : Int) > m') := by omega
    simp only [t1, t2, t3, decide_false, Bool.or_false, Bool.false_eq_true, if_false]
    have hroom : (askRoom ((m' : Int).toNat * i.bytes)).run P w = .ok () w := by
      unfold askRoom
      split
      · simp [mark, Sem.run]
      · rfl
    rw [Sem.run_bind, hroom]
    simp only [Result.andThen_ok, Int.toNat_natCast]
    rw [Sem.run_bind, run_sizeOf _ hi]
    simp only [Result.andThen_ok]
    by_cases h0 : m' * P.cellsOf e = 0
    · rw [if_pos h0]
      simp only [h0, if_true, Sem.run_bind, Sem.run_pure, Result.andThen_ok, run_newRow, zrow]
    · rw [if_neg h0]
      simp only [h0, if_false, Sem.run_bind, run_zeroValue hi hzv, Sem.run_pure, Result.andThen_ok, run_newRow, zrow]
  have hcells : ∀ (i : Nat) u, (List.replicate n' zv.cells.toList).flatten[i]? = some u → (zrow (m' * P.cellsOf e) (if m' * P.cellsOf e = 0 then #[] else zv.cells))[i]? = some u := by
    intro i u hu'
    have hi' : i < n' * P.cellsOf e := by
      have : i < (List.replicate n' zv.cells.toList).flatten.length := by
        rcases Nat.lt_or_ge i (List.replicate n' zv.cells.toList).flatten.length with h' | h'
        · exact h'
        · rw [List.getElem?_eq_none h'] at hu'; cases hu'
      simpa [hsz] using this
    have hle : n' * P.cellsOf e ≤ m' * P.cellsOf e := Nat.mul_le_mul_right _ (by omega)
    have h0 : ¬ m' * P.cellsOf e = 0 := by omega
    have hne : zv.cells.size ≠ 0 := by
      intro hz0; rw [hz0] at hsz; rw [← hsz] at hi'; simp at hi'
    simp only [h0, if_false, zrow]
    rw [← hsz]
    rw [zeros_get hne i (by rw [hsz]; omega)]
    rw [replicate_flat_get n' i (by simpa [hsz] using hi')] at hu'
    simp only [List.getD, Array.length_toList] at hu' ⊢
    rw [hu']; rfl
  obtain ⟨φ', hres⟩ := newRow_res hr hn hd (cap := m') hpure hflat (fun v hv => by
      simp only [List.mem_flatten, List.mem_replicate] at hv
      obtain ⟨l, ⟨_, rfl⟩, hv⟩ := hv
      exact hone v hv) hcells (by simp; omega) (by simp [zrow]) e (0, 0) (fun k _ h => by omega)
  refine ⟨φ', _, _, hrun, ?_⟩
  simpa using hres
end Go.Abs
end
section
namespace Go.Abs
open Go
variable {P : Program} {φ : Emb} {σ : Nat → AObj} {L : Nat → Prop} {w : World} {nx : Nat}
theorem bytes_flat (s : ByteArray) : VRs φ L w (s.data.toList.map fun b => ([.v (.int .u8 b.toNat)] : List AV)).flatten (s.data.toList.map fun b => .int .u8 b.toNat) := by
  generalize s.data.toList = l
  induction l with
  | nil => simp [VRs]
  | cons b l ih =>
    simp only [List.map_cons, List.flatten_cons, List.singleton_append, VRs]
    exact ⟨_, _, rfl, by simp [VR], ih⟩
theorem flat_singles {es : List (List AV)} (h : ∀ e, e ∈ es → pureL e = true ∧ e.length = 1) : es.flatten = es.map fun e => e.getD 0 .junk := by
  induction es with
  | nil => rfl
  | cons e es ih =>
    have := (h e (by simp)).2
    match e, this with
    | [c], _ => simp only [List.flatten_cons, List.map_cons, List.singleton_append]; rw [ih fun e he => h e (by simp [he])]; rfl
theorem ints_of_bytes : ∀ {es : List (List AV)} {us : List Value}, VRs φ L w (es.map fun e => e.getD 0 .junk) us → es.all isByte = true → us = (es.map fun e => (e.getD 0 .junk).toInt).map (Value.int .u8)
  | [], us, h, _ => by simpa [VRs] using h
  | e :: es, us, h, hb => by
    simp only [List.map_cons, VRs] at h
    obtain ⟨x, xs, rfl, h1, h2⟩ := h
    simp only [List.all_cons, Bool.and_eq_true] at hb
    have hx : x = .int .u8 (e.getD 0 .junk).toInt := by
      have hb1 := hb.1
      unfold isByte at hb1
      generalize e.getD 0 .junk = c at h1 hb1
      cases c with
      | v y =>
        rw [VR_v] at h1; subst h1
        cases x <;> simp_all [AV.isInt, AV.toInt]
      | _ => simp [AV.isInt] at hb1
    rw [hx, ints_of_bytes h2 hb.2]
    simp
theorem fold_push : ∀ (es : List (List AV)) (acc : ByteArray), ((es.map fun e => (e.getD 0 .junk).toInt).foldl (fun r n => r.push (UInt8.ofNat n.toNat)) acc) = ⟨acc.data ++ (es.map byteOf).toArray⟩
  | [], acc => by simp
  | e :: es, acc => by
    simp only [List.map_cons, List.foldl_cons]
    rw [fold_push es]
    simp [ByteArray.push, byteOf]
theorem bytesToString_sound {u : Value} {es : List (List AV)} (h : Elems φ L w 1 u es) (hb : es.all isByte = true) (hs : ∀ s, u ≠ .string s) :
    (Conv.bytesToString u).run P w = .ok (.string ⟨(es.map byteOf).toArray⟩) w := by
  have hfl := flat_singles h.pure
  rcases h.run with ⟨a, cap, rfl, rfl⟩ | ⟨s, rfl, _⟩ | ⟨b, o, cap, rfl, hv⟩
  · cases a with
    | none => rfl
    | some a =>
      have := run_bytesToString (P := P) w a 0 cap [] (by simp [loadCells, loadCellsFrom])
      exact this
  · exact absurd rfl (hs s)
  · obtain ⟨us, hrun, h1, _⟩ := run_loadCells_VRc (P := P) (VRe_flat hv)
    rw [hfl] at h1
    have hus := ints_of_bytes h1 hb
    have hlen : (es.flatten).length = es.length := by rw [hfl]; simp
    rw [hlen] at hrun
    have := run_bytesToString (P := P) w ⟨b, o, none⟩ es.length cap (es.map fun e => (e.getD 0 .junk).toInt) (by rw [← hus]; exact hrun)
    rw [this, fold_push]
    simp
theorem Rel.drew (hr : Rel φ σ w) : Rel φ σ w.drew :=
  ⟨fun i => (hr.obj i).mono φ.le_refl (Keep.drew _ _) (fun _ h => .inl h) fun _ _ _ _ => rfl, hr.inj, hr.out, hr.old⟩
theorem VR.drew {x : AV} {u : Value} (h : VR φ L w x u) : VR φ L w.drew x u := VR.mono φ.le_refl (Keep.drew L w) (fun _ h => .inl h) x u h
theorem Res.drew {wr : List (Nat × AObj)} {x : AV} {u : Value} {φ' : Emb} {w' : World} (h : Res φ σ w.drew nx wr x u φ' w') : Res φ σ w nx wr x u φ' w' :=
  ⟨h.le, (Keep.drew _ _).trans h.keep fun _ h => .inl h, h.rel, h.val, h.lv, h.new, h.frame⟩
theorem run_appendCap (need old : Nat) (e : TypeId) : ∃ cap, need ≤ cap ∧ (choose (.appendCap need old e)).run P w = .ok cap w.drew := by
  exact ⟨Question.cut (.appendCap need old e) (w.tape w.drawn (.appendCap need old e)), by simp [Question.cut], rfl⟩
theorem stringToBytes_sound (hr : Rel φ σ w) (hn : φ nx = none) (hd : σ nx = .dead) (e : TypeId) (s : ByteArray) :
    ∃ φ' u' w', (Conv.stringToBytes e s).run P w = .ok u' w' ∧ Res φ σ w nx [(nx, .row 1 (s.data.toList.map fun b => [.v (.int .u8 b.toNat)]))] (.wref nx) u' φ' w' := by
  obtain ⟨cap, hcap, hch⟩ := run_appendCap (P := P) (w := w) s.size 0 e
  let C : Array Value := (s.data.map fun b => Value.int .u8 b.toNat) ++ Array.replicate (cap - s.size) (.int .u8 0)
  have hC : C.size = cap := by
    have : s.data.size = s.size := rfl
    simp only [C, Array.size_append, Array.size_map, Array.size_replicate]; omega
  have hrun : (Conv.stringToBytes e s).run P w = .ok (.slice (some ⟨w.heap.size, 0, none⟩) s.size cap) (w.drew.alloc (.cells C e (C.size, C.size + 1))) := by
    unfold Conv.stringToBytes
    rw [Sem.run_bind, hch]
    simp only [Result.andThen_ok]
    rw [Sem.run_bind, run_newRow]
    simp only [Result.andThen_ok]
    have hm : (markStringish ⟨w.heap.size, 0, none⟩).run P (w.drew.alloc (.cells C e)) = .ok () (w.drew.alloc (.cells C e (C.size, C.size + 1))) := by
      have hg : (w.drew.alloc (.cells C e)).heap[w.heap.size]? = some (.cells C e) := by
        show (w.heap.push _)[_]? = _; simp
      unfold markStringish shape
      rw [Sem.run_bind]
      simp only [Sem.run, World.shape?, hg, Result.andThen_ok]
      have hfz : (w.drew.alloc (.cells C e)).freeze ⟨w.heap.size, C.size, none⟩ 1 = w.drew.alloc (.cells C e (C.size, C.size + 1)) := by
        unfold World.freeze
        rw [if_neg (by omega)]
        have hh : ∀ (W : World) (h' : Array Obj), W.heap = h' → ({ W with heap := h' } : World) = W := fun W h' e => by subst e; rfl
        have hheap : (w.drew.alloc (.cells C e)).heap.modify w.heap.size (fun x => match x with
            | .cells c elem (lo, hi) => .cells c elem (if lo == hi then (C.size, C.size + 1) else (min lo C.size, max hi (C.size + 1)))
            | o => o) = (w.drew.alloc (.cells C e (C.size, C.size + 1))).heap := by
          show (w.heap.push (.cells C e)).modify w.heap.size _ = w.heap.push (.cells C e (C.size, C.size + 1))
          apply Array.ext_getElem?
          intro k
          rw [Array.getElem?_modify, Array.getElem?_push, Array.getElem?_push]
          by_cases hk : k = w.heap.size
          · subst hk; simp
          · have hk' : w.heap.size ≠ k := fun h => hk h.symm
            simp [hk, hk']
        exact congrArg (fun h' => ({ w.drew with heap := h' } : World)) hheap
      simp only [freeze, Sem.run]
      rw [hfz]
    rw [Sem.run_bind]
    show ((markStringish ⟨w.heap.size, 0, none⟩).run P (w.drew.alloc (.cells C e))).andThen _ = _
    rw [hm]
    rfl
  obtain ⟨φ', hres⟩ := newRow_res (hr.drew) hn hd (d := 1) (cap := cap) (c := C) (es := s.data.toList.map fun b => [.v (.int .u8 b.toNat)]) (fun e' he => by
      simp only [List.mem_map] at he; obtain ⟨b, _, rfl⟩ := he; exact ⟨rfl, rfl⟩) (bytes_flat s) (fun v hv => by
      simp only [List.mem_map] at hv; obtain ⟨b, _, rfl⟩ := hv; rfl) (fun i u hu => by
      simp only [C]
      rw [Array.getElem?_append_left]
      · simpa using hu
      · have : i < s.data.toList.length := by
          rcases Nat.lt_or_ge i s.data.toList.length with h' | h'
          · exact h'
          · rw [List.getElem?_eq_none (by simpa using h')] at hu; cases hu
        simpa using this) (by simpa using hcap) (by rw [hC]; omega) e (C.size, C.size + 1) (fun k hk h => by omega)
  refine ⟨φ', _, _, hrun, ?_⟩
  have hl : (s.data.toList.map fun b => ([.v (.int .u8 b.toNat)] : List AV)).length = s.size := by simp
  rw [hl] at hres
  exact hres.drew
theorem conv_sound (hr : Rel φ σ w) (hn : φ nx = none) (hd : σ nx = .dead) {src dst : TypeId} {x y : AV} {u : Value} {wr : List (Nat × AObj)} (hx : VR φ (Lv φ σ) w x u) (h : convA P src dst x σ nx = some (true, y, wr)) :
    ∃ φ' u' w', (convert src dst u).run P w = .ok u' w' ∧ Res φ σ w nx wr y u' φ' w' := by
  unfold convA at h
  split at h
  · rename_i hs hd'
    rw [VR_v] at hx; subst hx
    simp only [only, Option.some.injEq, Prod.mk.injEq, true_and] at h
    obtain ⟨rfl, rfl⟩ := h
    refine ⟨φ, _, w, ?_, Res.still hr (by rw [intV, VR_v])⟩
    simp only [convert]
    rw [Sem.run_bind, run_underlying hs]
    simp only [Result.andThen_ok]
    rw [Sem.run_bind, run_underlying hd']
    rfl
  · rename_i hs hd'
    rw [VR_v] at hx; subst hx
    simp only [only, Option.some.injEq, Prod.mk.injEq, true_and] at h
    obtain ⟨rfl, rfl⟩ := h
    refine ⟨φ, _, w, ?_, Res.still hr (by rw [VR_v])⟩
    simp only [convert]
    rw [Sem.run_bind, run_underlying hs]
    simp only [Result.andThen_ok]
    rw [Sem.run_bind, run_underlying hd']
    rfl
  · rename_i e s hs hd'
    rw [VR_v] at hx; subst hx
    split at h
    case h_2 => cases h
    rename_i he
    simp only [Option.some.injEq, Prod.mk.injEq, true_and] at h
    obtain ⟨rfl, rfl⟩ := h
    obtain ⟨φ', u', w', hrun, hres⟩ := stringToBytes_sound (P := P) hr hn hd e s
    refine ⟨φ', u', w', ?_, hres⟩
    simp only [convert]
    rw [Sem.run_bind, run_underlying hs]
    simp only [Result.andThen_ok]
    rw [Sem.run_bind, run_underlying hd']
    simp only [Result.andThen_ok]
    rw [Sem.run_bind, run_underlying he]
    exact hrun
  · rename_i x _ _ _ e hs hd' hno
    split at h
    case h_2 => cases h
    rename_i b es he hes
    simp only [Option.some.injEq, Prod.mk.injEq, Bool.and_eq_true] at h
    obtain ⟨⟨rfl, hb⟩, rfl, rfl⟩ := h
    have hel := elems_sound hr hes hx
    have hsl : ∃ a l c, u = .slice a l c := by
      rcases hel.run with ⟨a, cap, rfl, _⟩ | ⟨s, rfl, _⟩ | ⟨b, o, cap, rfl, _⟩
      · exact ⟨_, _, _, rfl⟩
      · cases x with
        | v y => rw [VR_v] at hx; subst hx; exact absurd rfl (hno s)
        | junk => simp [elemsIn] at hes
        | agg cs => simp [elemsIn] at hes
        | tuple cs => simp [elemsIn] at hes
        | iface t x => simp [elemsIn] at hes
        | func f a b => simp [elemsIn] at hes
        | ptr i o => simp [elemsIn] at hes
        | eptr i n o => simp [elemsIn] at hes
        | dptr e => simp [elemsIn] at hes
        | yld i => simp [elemsIn] at hes
        | sl sz es => simp only [VR] at hx; obtain ⟨a, cap, e, _⟩ := hx; cases e
        | wref i => simp only [VR] at hx; obtain ⟨s, _, ⟨_, cap, e, _⟩ | ⟨_, a, e⟩⟩ := hx <;> cases e
        | sref i o n => simp only [VR] at hx; obtain ⟨s, _, _, ⟨_, cap, e, _⟩ | ⟨_, a, e⟩⟩ := hx <;> cases e
        | aref i o n => simp only [VR] at hx; obtain ⟨s, _, _, ⟨cap, e, _⟩ | ⟨_, a, e⟩⟩ := hx <;> cases e
      · exact ⟨_, _, _, rfl⟩
    obtain ⟨a, l, c, rfl⟩ := hsl
    refine ⟨φ, _, w, ?_, Res.still hr (by rw [VR_v])⟩
    rw [run_convert_bytes_string w src dst e a l c hs he hd']
    exact bytesToString_sound hel hb (by intro s h; cases h)
  · cases h
end Go.Abs
end
section
namespace Go.Abs
open Go
variable {P : Program} {φ : Emb} {σ : Nat → AObj} {L : Nat → Prop} {w : World} {nx : Nat}
theorem growBy_le (n : Nat) : ∀ (r c : Nat), c ≤ n + (n + 768) / 4 → Builtin.growBy n r c ≤ n + (n + 768) / 4
  | 0, c, h => h
  | r + 1, c, h => by
    unfold Builtin.growBy
    split
    · exact h
    · exact growBy_le n r _ (by omega)
theorem nextcap_le {need old : Nat} (h : old < need) : Builtin.nextslicecap need old ≤ 3 * need := by
  unfold Builtin.nextslicecap
  split
  · omega
  · split
    · omega
    · have := growBy_le need 4 old (by omega)
      omega
theorem VRs_flat_append {es zs : List (List AV)} {us vs : List Value} (h : VRs φ L w es.flatten us) (h' : VRs φ L w zs.flatten vs) : VRs φ L w (es ++ zs).flatten (us ++ vs) := by
  rw [List.flatten_append]; exact VRs_append h h'
theorem weaken_dead (hr : Rel φ σ w) (i : Nat) : Rel φ (updF σ [(i, .dead)]) w ∧ ∀ b, Lv φ (updF σ [(i, .dead)]) b → Lv φ σ b :=
  hr.weaken fun j => by
    by_cases h : j = i
    · subst h; right; left; simp [updF]
    · left; simp [updF, h]
theorem room_run (W : World) (b : Nat) : (askRoom b).run P W = .ok () W := by
  unfold askRoom
  split
  · simp [mark, Sem.run]
  · rfl
theorem append_grow {ty : TypeId} {ts : Array TypeId} {st e xt : TypeId} {xd : TypeDesc} {inf : TypeInfo} {zv : Value} {base : Option Addr} {n cap : Nat} {x : Value} {k : Nat} {old new : List Value}
    (h0 : ts[0]? = some st) (h1 : ts[1]? = some xt) (hu : P.underlying st = some (.slice e)) (hx : P.underlying xt = some xd) (hxd : plainSrc xd = true) (hi : P.info? e = some inf) (hz : inf.zero = some zv)
    (hlen : ∀ W, (Builtin.lenOf x).run P W = .ok k W) (hgrow : cap < n + k) (hsmall : (n + k) * (inf.bytes + 1) ≤ 2 ^ 46)
    (hold : (Builtin.firstCells inf.size n (.slice base n cap)).run P w.drew = .ok old.toArray w.drew) (hnew : (Builtin.firstCells inf.size k x).run P w.drew = .ok new.toArray w.drew) :
    ∃ (cap' : Nat), n + k ≤ cap' ∧
      (Builtin.append_ ts ty #[.slice base n cap, x]).run P w = .ok (.slice (some ⟨w.heap.size, 0, none⟩) (n + k) cap') (w.drew.alloc (.cells (old.toArray ++ new.toArray ++ Builtin.zeroCells zv.cells (cap' - (n + k))) e)) := by
  obtain ⟨cap', hcap, hch⟩ := run_appendCap (P := P) (w := w) (n + k) cap e
  refine ⟨cap', hcap, ?_⟩
  have hbytes : (n + k) * inf.bytes ≤ 2 ^ 46 := Nat.le_trans (Nat.mul_le_mul_left _ (by omega)) hsmall
  have hnk : n + k ≤ 2 ^ 46 := by
    have : (n + k) * 1 ≤ (n + k) * (inf.bytes + 1) := Nat.mul_le_mul_left _ (by omega)
    omega
  have hnext : Builtin.nextslicecap (n + k) cap * inf.bytes ≤ 3 * 2 ^ 46 := by
    have := Nat.mul_le_mul_right inf.bytes (nextcap_le hgrow)
    have h3 : 3 * (n + k) * inf.bytes = 3 * ((n + k) * inf.bytes) := Nat.mul_assoc _ _ _
    omega
  have t1 : ¬ (n + k ≤ cap) := by omega
  have t2 : ¬ (Builtin.nextslicecap (n + k) cap * inf.bytes > 2 ^ 48) := by omega
  have t3 : ¬ (((n + k : Nat) : Int) > IntKind.i64.max ∧ inf.bytes = 0) := by
    have : IntKind.i64.max = 9223372036854775807 := rfl
    omega
  unfold Builtin.append_
  simp only [h0, h1, List.getElem?_toArray, List.getElem?_cons_zero, List.getElem?_cons_succ]
  rw [Sem.run_bind, run_underlying hu]
  simp only [Result.andThen_ok]
  rw [Sem.run_bind, run_sizeOf _ hi]
  simp only [Result.andThen_ok]
  have hcs : P.cellsOf e = inf.size := by simp [Program.cellsOf, hi]
  rw [Sem.run_bind, run_underlying hx]
  simp only [Result.andThen_ok]
  rw [Sem.run_bind, Sem.run_pure]
  simp only [Result.andThen_ok]
  cases xd <;> first | (cases (show false = true from hxd); done) | skip
  all_goals
    dsimp only
    simp only [Bool.false_eq_true, if_false]
    rw [Sem.run_bind, hlen]
    simp only [Result.andThen_ok, if_neg t1]
    rw [Sem.run_bind, run_typeInfo hi]
    simp only [Result.andThen_ok, false_or, if_neg t3]
    rw [Sem.run_bind, run_typeInfo hi]
    simp only [Result.andThen_ok, if_neg t2]
    rw [Sem.run_bind, hch]
    simp only [Result.andThen_ok]
    rw [Sem.run_bind, run_typeInfo hi]
    simp only [Result.andThen_ok]
    rw [Sem.run_bind, room_run]
    simp only [Result.andThen_ok, hcs]
    rw [Sem.run_bind, hold]
    simp only [Result.andThen_ok, Bool.not_false, if_true]
    rw [Sem.run_bind, hnew]
    simp only [Result.andThen_ok]
    rw [Sem.run_bind, run_zeroValue hi hz]
    simp only [Result.andThen_ok]
    rw [Sem.run_bind, run_newRow]
    rfl
theorem append_room {ty : TypeId} {ts : Array TypeId} {st e xt : TypeId} {xd : TypeDesc} {inf : TypeInfo} {base : Option Addr} {n cap : Nat} {x : Value} {k : Nat} {new : List Value} {w' : World}
    (h0 : ts[0]? = some st) (h1 : ts[1]? = some xt) (hu : P.underlying st = some (.slice e)) (hx : P.underlying xt = some xd) (hxd : plainSrc xd = true) (hi : P.info? e = some inf)
    (hlen : ∀ W, (Builtin.lenOf x).run P W = .ok k W) (hroom : n + k ≤ cap) (hnew : (Builtin.firstCells inf.size k x).run P w = .ok new.toArray w)
    (hst : (match base with | some a => (storeCells (a.add (n * inf.size)) new).run P w = .ok () w' | none => w' = w)) :
    (Builtin.append_ ts ty #[.slice base n cap, x]).run P w = .ok (.slice base (n + k) cap) w' := by
  unfold Builtin.append_
  simp only [h0, h1, List.getElem?_toArray, List.getElem?_cons_zero, List.getElem?_cons_succ]
  rw [Sem.run_bind, run_underlying hu]
  simp only [Result.andThen_ok]
  rw [Sem.run_bind, run_sizeOf _ hi]
  simp only [Result.andThen_ok]
  have hcs : P.cellsOf e = inf.size := by simp [Program.cellsOf, hi]
  rw [Sem.run_bind, run_underlying hx]
  simp only [Result.andThen_ok]
  rw [Sem.run_bind, Sem.run_pure]
  simp only [Result.andThen_ok]
  cases xd <;> first | (cases (show false = true from hxd); done) | skip
  all_goals
    dsimp only
    simp only [Bool.false_eq_true, if_false]
    rw [Sem.run_bind, hlen]
    simp only [Result.andThen_ok, if_pos hroom, hcs, Bool.not_false, if_true]
    rw [Sem.run_bind, hnew]
    simp only [Result.andThen_ok]
    cases base with
    | none => simp only at hst; subst hst; rfl
    | some a =>
      simp only at hst ⊢
      rw [Sem.run_bind, hst]
      rfl
theorem zeroOk_info {e : TypeId} (h : zeroOk P e = true) : ∃ inf zv, P.info? e = some inf ∧ inf.zero = some zv ∧ inf.size = P.cellsOf e ∧ zv.cells.size = inf.size ∧ inf.size ≠ 0 := by
  unfold zeroOk at h
  split at h
  · rename_i z hz
    obtain ⟨i, zv, hi, hzv, rfl⟩ := info_of_zero hz
    simp only [Bool.and_eq_true, Nat.beq_eq, Bool.not_eq_true', List.length_map, Array.length_toList] at h
    have hcs : P.cellsOf e = i.size := by simp [Program.cellsOf, hi]
    refine ⟨i, zv, hi, hzv, hcs.symm, h.1.trans hcs, ?_⟩
    intro h0
    rw [hcs, h0] at h
    simp at h
  · cases h
theorem append_new (hn : φ nx = none) {ty : TypeId} {ts : Array TypeId} {st e xt : TypeId} {xd : TypeDesc} (h0 : ts[0]? = some st) (h1 : ts[1]? = some xt) (hu : P.underlying st = some (.slice e))
    (hx : P.underlying xt = some xd) (hxd : plainSrc xd = true) (hz : zeroOk P e = true) {w1 : List (Nat × AObj)} (hr1 : Rel φ (updF σ w1) w) (hl1 : ∀ b, Lv φ (updF σ w1) b → Lv φ σ b) (hd1 : updF σ w1 nx = .dead)
    {base : Option Addr} {cap : Nat} {ux : Value} {es zs : List (List AV)} (hes : ∀ e', e' ∈ es → pureL e' = true ∧ e'.length = P.cellsOf e) {old : List Value} (hov : VRs φ (Lv φ σ) w es.flatten old) (ho1 : ∀ v ∈ old, oneV v = true)
    (hold : (Builtin.firstCells (P.cellsOf e) es.length (.slice base es.length cap)).run P w.drew = .ok old.toArray w.drew) (hel : Elems φ (Lv φ σ) w.drew (P.cellsOf e) ux zs) (hgrow : cap < es.length + zs.length) (hsmall : (es.length + zs.length) * (P.bytesOf e + 1) ≤ 2 ^ 46) :
    ∃ φ' u w', (Builtin.append_ ts ty #[.slice base es.length cap, ux]).run P w = .ok u w' ∧ Res φ σ w nx (w1 ++ [(nx, .row (P.cellsOf e) (es ++ zs))]) (.wref nx) u φ' w' := by
  obtain ⟨inf, zv, hi, hzv, hsz, hzs, hne⟩ := zeroOk_info hz
  have hb : P.bytesOf e = inf.bytes := by simp [Program.bytesOf, hi]
  obtain ⟨hlen, new, hnew, hnv, hn1, hnl⟩ := elems_cells (P := P) hel
  have hlen' : ∀ W, (Builtin.lenOf ux).run P W = .ok zs.length W := fun W => by
    rcases hel.run with ⟨a, cap, rfl, rfl⟩ | ⟨s, rfl, _, rfl⟩ | ⟨b, o, cap, rfl, _⟩
    · rfl
    · simp [Builtin.lenOf]
    · rfl
  obtain ⟨cap', hcap, hrun⟩ := append_grow (P := P) (w := w) (ty := ty) h0 h1 hu hx hxd hi hzv hlen' hgrow (by rw [← hb]; exact hsmall) (by rw [hsz]; exact hold) (by rw [hsz]; exact hnew)
  have hpure : ∀ e', e' ∈ es ++ zs → pureL e' = true ∧ e'.length = P.cellsOf e := fun e' he => (List.mem_append.1 he).elim (hes e') (hel.pure e')
  have hol : old.length = es.length * P.cellsOf e := (VRs_length hov).trans (flat_length hes)
  have hnv0 : VRs φ (Lv φ σ) w zs.flatten new := VRs.mono φ.le_refl (⟨rfl, rfl, rfl, Nat.le_refl _, fun _ _ _ => rfl⟩ : Keep (Lv φ σ) w.drew w) (fun _ h => .inl h) _ _ hnv
  have hv : VRs φ (Lv φ (updF σ w1)) w.drew (es ++ zs).flatten (old ++ new) :=
    VRs.mono φ.le_refl (Keep.drew (Lv φ σ) w) (fun b hb => .inl (hl1 b hb)) _ _ (VRs_flat_append hov hnv0)
  obtain ⟨φ', hres⟩ := newRow_res (nx := nx) hr1.drew hn hd1 (cap := cap') (c := old.toArray ++ new.toArray ++ Builtin.zeroCells zv.cells (cap' - (es.length + zs.length))) hpure hv (fun v hv => (List.mem_append.1 hv).elim (ho1 v) (hn1 v))
    (fun i u hu => by
      have hlt : i < (old ++ new).length := by
        rcases Nat.lt_or_ge i (old ++ new).length with h' | h'
        · exact h'
        · rw [List.getElem?_eq_none h'] at hu; cases hu
      rw [Array.getElem?_append_left (by simpa using hlt), ← Array.getElem?_toList]
      simpa using hu) (by simpa using hcap) (by
      simp only [Array.size_append, List.size_toArray, Builtin.zeroCells, Array.size_map, Array.size_range, hzs, hsz, hol, hnl]
      rw [← Nat.add_mul, ← Nat.add_mul]
      refine Nat.mul_le_mul_right _ ?_
      omega) e (0, 0) (fun k _ h => by omega)
  refine ⟨φ', _, _, hrun, ?_⟩
  have : (es ++ zs).length = es.length + zs.length := by simp
  rw [this] at hres
  exact (Res.after hl1 hres.drew)
theorem flat_get {d : Nat} {e : List AV} {y : AV} {j : Nat} (hj : j < d) (hy : e[j]? = some y) : ∀ (es : List (List AV)) (i : Nat), (∀ e, e ∈ es → pureL e = true ∧ e.length = d) → es[i]? = some e → es.flatten[i * d + j]? = some y
  | [], i, _, h => by simp at h
  | f :: es, i, hp, h => by
    have hf := hp f (by simp)
    cases i with
    | zero =>
      simp at h; subst h
      simp only [List.flatten_cons]
      rw [List.getElem?_append_left (by omega)]
      simpa using hy
    | succ i =>
      simp only [List.flatten_cons]
      rw [List.getElem?_append_right (by rw [hf.2, Nat.add_mul]; omega)]
      rw [show (i + 1) * d + j - f.length = i * d + j by rw [hf.2, Nat.add_mul]; omega]
      exact flat_get hj hy es i (fun e he => hp e (by simp [he])) (by simpa using h)
theorem append_in (hr : Rel φ σ w) (hn : φ nx = none) (hd : σ nx = .dead) {ty : TypeId} {ts : Array TypeId} {st e xt : TypeId} {xd : TypeDesc} (h0 : ts[0]? = some st) (h1 : ts[1]? = some xt) (hu : P.underlying st = some (.slice e))
    (hx : P.underlying xt = some xd) (hxd : plainSrc xd = true) (hz : zeroOk P e = true) {i : Nat} {s : Slot} {all : List (List AV)} (hi : φ i = some s) (hreal : s.real = true) (hrow : σ i = .row (P.cellsOf e) all) (hown : Own w s)
    {o cap : Nat} {ux : Value} {es zs : List (List AV)} (hes : VRe φ (Lv φ σ) w (P.cellsOf e) es s.b o) (hfit : o + cap * P.cellsOf e ≤ s.room) (hel : Elems φ (Lv φ σ) w (P.cellsOf e) ux zs) (hroom : es.length + zs.length ≤ cap) :
    ∃ φ' u w', (Builtin.append_ ts ty #[.slice (some ⟨s.b, o, none⟩) es.length cap, ux]).run P w = .ok u w' ∧ Res φ σ w nx [(i, .dead), (nx, .row (P.cellsOf e) (es ++ zs))] (.wref nx) u φ' w' := by
  obtain ⟨inf, zv, hinf, hzv, hsz, hzs, hne⟩ := zeroOk_info hz
  obtain ⟨_, new, hnew, hnv, hn1, hnl⟩ := elems_cells (P := P) hel
  have hlen' : ∀ W, (Builtin.lenOf ux).run P W = .ok zs.length W := fun W => by
    rcases hel.run with ⟨a, cap, rfl, rfl⟩ | ⟨s, rfl, _, rfl⟩ | ⟨b, o, cap, rfl, _⟩
    · rfl
    · simp [Builtin.lenOf]
    · rfl
  obtain ⟨c, t, fr, hh, hcs, hf⟩ := hown
  have hb : s.b < w.heap.size := (Array.getElem?_eq_some_iff.1 hh).1
  have hcapd : (es.length + zs.length) * P.cellsOf e ≤ cap * P.cellsOf e := Nat.mul_le_mul_right _ hroom
  have hfit' : o + es.length * P.cellsOf e + new.length ≤ c.size := by
    rw [hnl, hcs]; rw [Nat.add_mul] at hcapd; omega
  have hesp := VRe_pure' hes
  refine ⟨setS φ nx ⟨s.b, o, P.cellsOf e, (es ++ zs).length, s.room, true⟩, .slice (some ⟨s.b, o, none⟩) (es.length + zs.length) cap, putCells w s.b (setA c (o + es.length * P.cellsOf e) new) t fr, ?_, ?_⟩
  · refine append_room (P := P) (w := w) (inf := inf) h0 h1 hu hx hxd hinf hlen' hroom (by rw [hsz]; exact hnew) ?_
    simp only [addr_add]
    rw [hsz]
    simpa using run_storeCells_put (P := P) new 0 c w s.b (o + es.length * P.cellsOf e) t fr hh hf (by simpa using hfit') hn1
  · have hnei : nx ≠ i := fun e => by rw [e] at hn; rw [hn] at hi; cases hi
    have hlive : (σ i).live = true := by rw [hrow]; rfl
    have hL0 : Lv φ σ s.b := .inr ⟨i, s, hlive, hi, hreal, rfl⟩
    have hkeep : Keep (Lv φ σ) w (putCells w s.b (setA c (o + es.length * P.cellsOf e) new) t fr) := putCells_keep hL0
    have hle := setS_le hn (⟨s.b, o, P.cellsOf e, (es ++ zs).length, s.room, true⟩ : Slot)
    have hupd : updF σ [(i, .dead), (nx, .row (P.cellsOf e) (es ++ zs))] = fun j => if j = nx then .row (P.cellsOf e) (es ++ zs) else if j = i then .dead else σ j := rfl
    generalize hs' : (⟨s.b, o, P.cellsOf e, (es ++ zs).length, s.room, true⟩ : Slot) = s' at *
    have e1 : s'.b = s.b := by rw [← hs']
    have hlv : ∀ b, Lv (setS φ nx s') (updF σ [(i, .dead), (nx, .row (P.cellsOf e) (es ++ zs))]) b → Lv φ σ b := by
      rintro b (hF | ⟨j, sj, l1, l2, l3, rfl⟩)
      · exact .inl hF
      by_cases hj : j = nx
      · subst hj; rw [setS_same] at l2; cases l2; rw [e1]; exact hL0
      · rw [setS_other hj] at l2
        rw [hupd] at l1
        simp only [hj, if_false] at l1
        by_cases hji : j = i
        · subst hji; simp [AObj.live] at l1
        · simp only [hji, if_false] at l1
          exact .inr ⟨j, sj, l1, l2, l3, rfl⟩
    have hm : ∀ y v, VR φ (Lv φ σ) w y v → VR (setS φ nx s') (Lv (setS φ nx s') (updF σ [(i, .dead), (nx, .row (P.cellsOf e) (es ++ zs))])) (putCells w s.b (setA c (o + es.length * P.cellsOf e) new) t fr) y v :=
      fun y v h => VR.mono hle hkeep (fun b hb => .inl (hlv b hb)) y v h
    have hobj : ObjR (setS φ nx s') (Lv (setS φ nx s') (updF σ [(i, .dead), (nx, .row (P.cellsOf e) (es ++ zs))])) (putCells w s.b (setA c (o + es.length * P.cellsOf e) new) t fr) (.row (P.cellsOf e) (es ++ zs)) (some s') := by
      refine ⟨s', rfl, by rw [← hs'], by rw [← hs'], .inr ⟨by rw [← hs'], ⟨_, t, fr, by rw [e1]; exact putCells_same hb, by rw [setA_size, hcs, ← hs'], fun k hk => hf k (by rwa [setA_size] at hk)⟩, ?_, ?_⟩⟩
      · rw [← hs']; simp; omega
      · have eo : s'.o = o := by rw [← hs']
        rw [e1, eo, VRe_iff]
        intro j d hd
        have hlt : j < (es ++ zs).length := by
          rcases Nat.lt_or_ge j (es ++ zs).length with h' | h'
          · exact h'
          · rw [List.getElem?_eq_none h'] at hd; cases hd
        have hp : pureL d = true ∧ d.length = P.cellsOf e := (List.mem_append.1 (List.mem_of_getElem? hd)).elim (hesp d) (hel.pure d)
        refine ⟨hp.2, hp.1, ?_⟩
        rw [VRc_block (putCells_same hb)]
        intro q y hy
        have hq : q < P.cellsOf e := by
          rw [← hp.2]
          rcases Nat.lt_or_ge q d.length with h' | h'
          · exact h'
          · rw [List.getElem?_eq_none h'] at hy; cases hy
        rw [setA_get _ _ _ hfit']
        rcases Nat.lt_or_ge j es.length with hj | hj
        · rw [List.getElem?_append_left hj] at hd
          have : j * P.cellsOf e + P.cellsOf e ≤ es.length * P.cellsOf e := by
            have := Nat.mul_le_mul_right (P.cellsOf e) (show j + 1 ≤ es.length from hj)
            rw [Nat.add_mul] at this; omega
          rw [if_neg (by omega)]
          obtain ⟨z, hz, h3, h4⟩ := (VRc_block hh).1 ((VRe_iff.1 hes) j d hd).2.2 q y hy
          exact ⟨z, hz, h3, hm _ _ h4⟩
        · rw [List.getElem?_append_right hj] at hd
          obtain ⟨z, hz, h4⟩ := VRs_get? hnv (flat_get hq hy zs (j - es.length) hel.pure hd)
          have e2 : o + j * P.cellsOf e + q - (o + es.length * P.cellsOf e) = (j - es.length) * P.cellsOf e + q := by
            rw [Nat.sub_mul]
            have : es.length * P.cellsOf e ≤ j * P.cellsOf e := Nat.mul_le_mul_right _ hj
            omega
          have hzl : (j - es.length) * P.cellsOf e + q < new.length := by
            rcases Nat.lt_or_ge ((j - es.length) * P.cellsOf e + q) new.length with h' | h'
            · exact h'
            · rw [List.getElem?_eq_none h'] at hz; cases hz
          have : es.length * P.cellsOf e ≤ j * P.cellsOf e := Nat.mul_le_mul_right _ hj
          rw [if_pos (by rw [Nat.sub_mul] at hzl; omega)]
          rw [e2]
          exact ⟨z, hz, hn1 z (List.mem_of_getElem? hz), hm _ _ h4⟩
    refine ⟨hle, hkeep, ?_, ?_, fun b hb => .inl (hlv b hb), fun j hj => setS_other (hj.resolve_right (by simp)) _, fun b hb => putCells_other fun e => hr.out i s hlive hi hreal (e ▸ hb)⟩
    · refine hr.upd (fun j => j = i ∨ j = nx) hle hkeep (fun j hj => ?_) (fun j sj hj hl e hr' => ?_) (fun j sj hj hl e hr' => ?_) (fun a b s1 s2 ha hb' la lb ea eb ra rb hab => ?_) (fun j hj => ?_)
      · have hji : j ≠ i := fun e => hj (.inl e)
        have hjn : j ≠ nx := fun e => hj (.inr e)
        exact ⟨by rw [hupd]; simp [hji, hjn], setS_other hjn _⟩
      · exact putCells_other fun hb => hj (.inl (hr.inj j i sj s hl hlive e hi hr' hreal hb))
      · rcases hj with hj | hj
        · subst hj; rw [hupd] at hl; simp [Ne.symm hnei, AObj.live] at hl
        · subst hj; rw [setS_same] at e; cases e
          exact .inr ⟨i, s, .inl rfl, hlive, hi, hreal, e1.symm⟩
      · have dead : ∀ k, k = i → (updF σ [(i, .dead), (nx, .row (P.cellsOf e) (es ++ zs))] k).live = false := fun k hk => by
          subst hk; rw [hupd]; simp [Ne.symm hnei, AObj.live]
        rcases ha with ha | ha
        · rw [dead a ha] at la; cases la
        · rcases hb' with hb' | hb'
          · rw [dead b hb'] at lb; cases lb
          · rw [ha, hb']
      · rcases hj with hj | hj
        · subst hj; rw [hupd]; simp [Ne.symm hnei, ObjR]
        · subst hj; rw [setS_same]
          have : updF σ [(i, .dead), (j, .row (P.cellsOf e) (es ++ zs))] j = .row (P.cellsOf e) (es ++ zs) := by rw [hupd]; simp
          rw [this]
          exact hobj
    · simp only [VR]
      refine ⟨s', setS_same _ _, .inl ⟨by rw [← hs'], cap, ?_, ?_, ?_⟩⟩
      · rw [← hs']; simp
      · rw [← hs']; simpa using hroom
      · rw [← hs']; exact hfit
end Go.Abs
end
section
namespace Go.Abs
open Go
variable {P : Program} {φ : Emb} {σ : Nat → AObj} {L : Nat → Prop} {w : World} {nx : Nat}
theorem elems_drew {d : Nat} {u : Value} {es : List (List AV)} (h : Elems φ L w d u es) : Elems φ L w.drew d u es :=
  ⟨h.pure, h.run.imp id fun h => h.imp id fun ⟨b, o, cap, e, hv⟩ => ⟨b, o, cap, e, VRe.mono φ.le_refl (Keep.drew L w) (fun _ h => .inl h) d es b o rfl hv⟩⟩
theorem first_nil {d : Nat} {base : Option Addr} {W : World} : (Builtin.firstCells d 0 (.slice base 0 0)).run P W = .ok ([] : List Value).toArray W := by
  cases base with
  | none => rfl
  | some a => simp [Builtin.firstCells, loadCells, loadCellsFrom]
theorem append_empty (hn : φ nx = none) {ty : TypeId} {ts : Array TypeId} {st e xt : TypeId} {xd : TypeDesc} (h0 : ts[0]? = some st) (h1 : ts[1]? = some xt) (hu : P.underlying st = some (.slice e))
    (hx : P.underlying xt = some xd) (hxd : plainSrc xd = true) (hz : zeroOk P e = true) {w1 : List (Nat × AObj)} (hr1 : Rel φ (updF σ w1) w) (hl1 : ∀ b, Lv φ (updF σ w1) b → Lv φ σ b) (hd1 : updF σ w1 nx = .dead)
    {base : Option Addr} {ux : Value} {zs : List (List AV)} (hel : Elems φ (Lv φ σ) w (P.cellsOf e) ux zs) (hsmall : zs.length * (P.bytesOf e + 1) ≤ 2 ^ 46) :
    ∃ φ' u w', (Builtin.append_ ts ty #[.slice base 0 0, ux]).run P w = .ok u w' ∧ Res φ σ w nx (w1 ++ [(nx, .row (P.cellsOf e) zs)]) (.wref nx) u φ' w' := by
  by_cases hk : zs = []
  · subst hk
    obtain ⟨inf, zv, hinf, hzv, hsz, hzs, hne⟩ := zeroOk_info hz
    obtain ⟨_, new, hnew, hnv, hn1, hnl⟩ := elems_cells (P := P) hel
    have hlen' : ∀ W, (Builtin.lenOf ux).run P W = .ok 0 W := fun W => by
      rcases hel.run with ⟨a, cap, rfl, _⟩ | ⟨s, rfl, _, h⟩ | ⟨b, o, cap, rfl, _⟩
      · rfl
      · have hs : s.data.toList = [] := by simpa using h.symm
        have : s.size = 0 := by
          have := congrArg List.length hs
          simpa using this
        simp [Builtin.lenOf, this]
      · rfl
    have hnil : new = [] := List.length_eq_zero_iff.1 (by simpa using hnl)
    subst hnil
    have hrun := append_room (P := P) (w := w) (w' := w) (ty := ty) (inf := inf) (base := base) (n := 0) (cap := 0) h0 h1 hu hx hxd hinf hlen' (by omega) (by rw [hsz]; exact hnew) (by
      cases base with
      | none => rfl
      | some a => simp [storeCells])
    obtain ⟨φ', hres⟩ := noRow_res hr1 hn hd1 (P.cellsOf e) (u := .slice base 0 0) ⟨base, rfl⟩
    exact ⟨φ', _, _, hrun, Res.after hl1 hres⟩
  · have hpos : 0 < zs.length := List.length_pos_iff.2 hk
    have := append_new (P := P) (σ := σ) (w := w) (nx := nx) (es := []) (old := []) (base := base) (cap := 0) hn (ty := ty) h0 h1 hu hx hxd hz hr1 hl1 hd1 (by simp) (by simp [VRs]) (by simp) first_nil (elems_drew hel) (by simp; omega) (by simpa using hsmall)
    simpa using this
theorem append_sound (hr : Rel φ σ w) (hn : φ nx = none) (hd : σ nx = .dead) {ty : TypeId} {ts : Array TypeId} {s x y : AV} {us ux : Value} {wr : List (Nat × AObj)} (hs : VR φ (Lv φ σ) w s us) (hx : VR φ (Lv φ σ) w x ux)
    (h : builtinA P .append ts [s, x] σ nx = some (true, y, wr)) : ∃ φ' u w', (Builtin.append_ ts ty #[us, ux]).run P w = .ok u w' ∧ Res φ σ w nx wr y u φ' w' := by
  simp only [builtinA] at h
  split at h
  case h_2 => cases h
  rename_i e xd hst hxt
  obtain ⟨st, h0, hu⟩ := Option.bind_eq_some_iff.1 hst
  obtain ⟨xt, h1, hux⟩ := Option.bind_eq_some_iff.1 hxt
  split at h
  · cases h
  rename_i hchk
  have hxd : plainSrc xd = true := by cases hp : plainSrc xd <;> simp_all
  have hz : zeroOk P e = true := by cases hp : zeroOk P e <;> simp_all
  split at h
  case h_2 => cases h
  rename_i b zs hzs
  split at h
  · rw [VR_v] at hs; subst hs
    simp only [Option.some.injEq, Prod.mk.injEq, Bool.and_eq_true, decide_eq_true_eq] at h
    obtain ⟨⟨rfl, hsm⟩, rfl, rfl⟩ := h
    have hel := elems_sound hr hzs hx
    have := append_empty (P := P) (w1 := []) (base := none) (ty := ty) hn h0 h1 hu hux hxd hz hr (fun _ h => h) hd hel hsm
    simpa using this
  · rename_i i
    split at h
    case h_2 => cases h
    rename_i sz es hrow
    split at h
    · cases h
    rename_i hsz
    have hsz : sz = P.cellsOf e := by omega
    subst hsz
    simp only [Option.some.injEq, Prod.mk.injEq, Bool.and_eq_true, decide_eq_true_eq] at h
    obtain ⟨⟨rfl, hsm⟩, rfl, rfl⟩ := h
    have hel := elems_sound hr hzs hx
    obtain ⟨hr1, hl1⟩ := weaken_dead hr i
    have hnei : nx ≠ i := fun e => by rw [e] at hd; rw [hd] at hrow; cases hrow
    have hd1 : updF σ [(i, .dead)] nx = .dead := by simp [updF, hnei, hd]
    simp only [VR] at hs
    obtain ⟨s, hsl, hu'⟩ := hs
    have hob := hr.obj i
    rw [hrow] at hob
    obtain ⟨s', e1, hs1, hs2, hs3⟩ := hob
    rw [hsl] at e1; cases e1
    have grow : ∀ {fs : List (List AV)} {o cap : Nat}, (∀ e', e' ∈ fs → pureL e' = true ∧ e'.length = P.cellsOf e) → VRe φ (Lv φ σ) w (P.cellsOf e) fs s.b o → True = True → ¬ (fs.length + zs.length ≤ cap) → (fs.length + zs.length) * (P.bytesOf e + 1) ≤ 2 ^ 46 →
        ∃ φ' u w', (Builtin.append_ ts ty #[.slice (some ⟨s.b, o, none⟩) fs.length cap, ux]).run P w = .ok u w' ∧ Res φ σ w nx [(i, .dead), (nx, .row (P.cellsOf e) (fs ++ zs))] (.wref nx) u φ' w' := by
      intro fs o cap hp hv _ hg hsm
      have hc := VRe_flat (VRe.mono φ.le_refl (Keep.drew (Lv φ σ) w) (fun _ h => .inl h) _ fs s.b o rfl hv)
      obtain ⟨us, hrun, hvs, h1v⟩ := run_loadCells_VRc (P := P) hc
      have hfl := flat_length hp
      have hvs' := VRs.mono φ.le_refl (⟨rfl, rfl, rfl, Nat.le_refl _, fun _ _ _ => rfl⟩ : Keep (Lv φ σ) w.drew w) (fun _ h => .inl h) _ _ hvs
      exact append_new (P := P) (w1 := [(i, .dead)]) (ty := ty) hn h0 h1 hu hux hxd hz hr1 hl1 hd1 hp hvs' h1v (by
        simp only [Builtin.firstCells]
        rw [← hfl]; exact hrun) (elems_drew hel) (by omega) hsm
    rcases hu' with ⟨hreal, cap, rfl, hle, hfit⟩ | ⟨hn0, a, rfl⟩
    · rcases hs3 with ⟨_, h3⟩ | ⟨_, hown, hroom, hv⟩
      · rw [hreal] at h3; cases h3
      · rw [hs2] at hle ⊢
        by_cases hg : es.length + zs.length ≤ cap
        · exact append_in (P := P) (ty := ty) hr hn hd h0 h1 hu hux hxd hz hsl hreal hrow hown hv (by rw [hs1] at hfit; exact hfit) hel hg
        · exact grow (VRe_pure' hv) hv rfl hg hsm
    · have hes : es = [] := List.length_eq_zero_iff.1 (by omega)
      subst hes
      have := append_empty (P := P) (w1 := [(i, .dead)]) (base := a) (ty := ty) hn h0 h1 hu hux hxd hz hr1 hl1 hd1 hel (by simpa using hsm)
      simpa using this
  · rename_i i off n
    split at h
    case h_2 => cases h
    rename_i sz es hrow
    split at h
    · cases h
    rename_i hsz
    have hsz : sz = P.cellsOf e := by omega
    subst hsz
    simp only [Option.some.injEq, Prod.mk.injEq, Bool.and_eq_true, decide_eq_true_eq] at h
    obtain ⟨⟨rfl, hsm⟩, rfl, rfl⟩ := h
    have hel := elems_sound hr hzs hx
    obtain ⟨hr1, hl1⟩ := weaken_dead hr i
    have hnei : nx ≠ i := fun e => by rw [e] at hd; rw [hd] at hrow; cases hrow
    have hd1 : updF σ [(i, .dead)] nx = .dead := by simp [updF, hnei, hd]
    simp only [VR] at hs
    obtain ⟨s, hsl, hoff, hu'⟩ := hs
    have hob := hr.obj i
    rw [hrow] at hob
    obtain ⟨s', e1, hs1, hs2, hs3⟩ := hob
    rw [hsl] at e1; cases e1
    have hlen : ((es.drop off).take n).length = n := by simp; omega
    rcases hu' with ⟨hreal, cap, rfl, hle, hfit⟩ | ⟨hn0, a, rfl⟩
    · rcases hs3 with ⟨_, h3⟩ | ⟨_, hown, hroom, hv⟩
      · rw [hreal] at h3; cases h3
      · have hv' := VRe_take (VRe_drop hv off) n
        rw [hs1] at hfit ⊢
        generalize hfs : (es.drop off).take n = fs at *
        subst hlen
        by_cases hg : fs.length + zs.length ≤ cap
        · exact append_in (P := P) (ty := ty) hr hn hd h0 h1 hu hux hxd hz hsl hreal hrow hown hv' hfit hel hg
        · have hc := VRe_flat (VRe.mono φ.le_refl (Keep.drew (Lv φ σ) w) (fun _ h => .inl h) _ fs s.b _ rfl hv')
          obtain ⟨us, hrun, hvs, h1v⟩ := run_loadCells_VRc (P := P) hc
          have hfl := flat_length (VRe_pure' hv')
          have hvs' := VRs.mono φ.le_refl (⟨rfl, rfl, rfl, Nat.le_refl _, fun _ _ _ => rfl⟩ : Keep (Lv φ σ) w.drew w) (fun _ h => .inl h) _ _ hvs
          exact append_new (P := P) (w1 := [(i, .dead)]) (ty := ty) hn h0 h1 hu hux hxd hz hr1 hl1 hd1 (VRe_pure' hv') hvs' h1v (by
            simp only [Builtin.firstCells]
            rw [← hfl]; exact hrun) (elems_drew hel) (by omega) hsm
    · subst hn0
      have hes : (es.drop off).take 0 = [] := by simp
      have := append_empty (P := P) (w1 := [(i, .dead)]) (base := a) (ty := ty) hn h0 h1 hu hux hxd hz hr1 hl1 hd1 hel (by simpa using hsm)
      simpa using this
  · cases h
end Go.Abs
end
