/- The executor on abstract states and what is proved of it, part 1; conditions stand in the theorems. -/
import GoSem.Dispatch
import Derived.Orders
import Derived.Laws.Sem
import Derived.Below
import Derived.Laws.AppendOwn
import Derived.Laws.Tables
import Derived.Laws.Rows
import Derived.Laws.CopyRow
import Derived.Laws.StructEq
import Derived.Laws.Shifts
import Derived.Laws.Cells
import Derived.Great.BuildSlice
import Derived.Deep.AppendSrc
namespace Go
set_option linter.unusedVariables false
set_option linter.unusedSimpArgs false
set_option autoImplicit false
namespace AX
inductive Ty where
 | int (k : IntKind)
 | bool
 | str
 | sl (e : TypeId) (t : Ty)
 | st (ts : List Ty)
mutual
def Ty.T : Ty → Type
 | .int _ => Int
 | .bool => Bool
 | .str => ByteArray
 | .sl _ t => List (Ty.T t)
 | .st ts => Ty.Ts ts
def Ty.Ts : List Ty → Type
 | [] => Unit
 | t :: r => Ty.T t × Ty.Ts r
end
mutual
def tyEq : (a b : Ty) → Option (PLift (a = b))
 | .int k, .int l => match decEq k l with
  | isTrue h => some ⟨by rw [h]⟩
  | isFalse _ => none
 | .bool, .bool => some ⟨rfl⟩
 | .str, .str => some ⟨rfl⟩
 | .sl e t, .sl f u => match decEq e f, tyEq t u with
  | isTrue h, some p => some ⟨by rw [h, p.down]⟩
  | _, _ => none
 | .st ts, .st us => match tysEq ts us with
  | some p => some ⟨by rw [p.down]⟩
  | none => none
 | _, _ => none
def tysEq : (a b : List Ty) → Option (PLift (a = b))
 | [], [] => some ⟨rfl⟩
 | t :: r, u :: q => match tyEq t u, tysEq r q with
  | some p, some s => some ⟨by rw [p.down, s.down]⟩
  | _, _ => none
 | _, _ => none
end
def castT (a b : Ty) (x : a.T) : Option b.T := match tyEq a b with
 | some p => some (p.down ▸ x)
 | none => none
def castL (a b : Ty) (x : List a.T) : Option (List b.T) := match tyEq a b with
 | some p => some (p.down ▸ x)
 | none => none
mutual
def zeroT : (t : Ty) → t.T
 | .int _ => (0 : Int)
 | .bool => false
 | .str => (⟨#[]⟩ : ByteArray)
 | .sl _ _ => []
 | .st ts => zeroTs ts
def zeroTs : (ts : List Ty) → Ty.Ts ts
 | [] => ()
 | t :: r => (zeroT t, zeroTs r)
end
structure DV where
 t : Ty
 x : t.T
def cellsT : (ts : List Ty) → Ty.Ts ts → List DV
 | [], _ => []
 | t :: r, x => ⟨t, x.1⟩ :: cellsT r x.2
def cellsD : DV → List DV
 | ⟨.st ts, x⟩ => cellsT ts x
 | y => [y]
def packT : (l : List DV) → Ty.Ts (l.map DV.t)
 | [] => ()
 | y :: r => (y.x, packT r)
def packD (l : List DV) : DV := ⟨.st (l.map DV.t), packT l⟩
def isSt : Ty → Bool
 | .st _ => true
 | _ => false
def Ty.sz : Ty → Nat
 | .st ts => ts.length
 | _ => 1
abbrev Id := List Nat
inductive AV where
 | d (x : DV)
 | bv (t : Nat) (e : TypeId) (ty : Ty) (xs : List ty.T)
 | nils
 | nilp
 | nilf
 | undef
 | ref (id : Id)
 | cut (id : Id) (off len : Nat)
 | ptr (id : Id) (i off : Nat)
 | vptr (x : DV) (off : Nat)
 | agg (xs : List AV)
 | tup (xs : List AV)
 | fn (f : Fn) (first captured : List AV)
 | nt (may : Bool) (yes : Bool)
 | top
inductive El where
 | data (ty : Ty) (xs : List ty.T)
 | mix (xs : List AV)
structure Obj where
 e : TypeId
 g : Nat
 el : El
abbrev Heap := List (Id × Obj)
structure St where
 sl : List AV
 hp : Heap
 n : Nat
def i_ {k : IntKind} (x : Ty.T (.int k)) : Int := x
def b_ (x : Ty.T .bool) : Bool := x
def s_ (x : Ty.T .str) : ByteArray := x
def l_ {e : TypeId} {t : Ty} (x : Ty.T (.sl e t)) : List t.T := x
def vi (k : IntKind) (n : Int) : AV := .d ⟨.int k, n⟩
def vb (b : Bool) : AV := .d ⟨.bool, b⟩
def vs (s : ByteArray) : AV := .d ⟨.str, s⟩
def allD : List AV → Option (List DV)
 | [] => some []
 | .d x :: r => match allD r with
  | some xs => some (x :: xs)
  | none => none
 | .bv 0 e ty xs :: r => match allD r with
  | some ys => some (⟨.sl e ty, xs⟩ :: ys)
  | none => none
 | _ :: _ => none
def mkA (xs : List AV) : AV := match allD xs with
 | some ds => .d (packD ds)
 | none => .agg xs
def cellsA : AV → List AV
 | .agg xs => xs
 | .d x => (cellsD x).map .d
 | x => [x]
def setCells {α : Type} (xs : List α) (off : Nat) (ys : List α) : List α := xs.take off ++ ys ++ xs.drop (off + ys.length)
def isTop : AV → Bool
 | .top => true
 | .tup _ => true
 | .undef => true
 | _ => false
def hget : Heap → Id → Option Obj
 | [], _ => none
 | (i, o) :: r, id => match decEq i id with
  | isTrue _ => some o
  | isFalse _ => hget r id
def hdel : Heap → Id → Heap
 | [], _ => []
 | (i, o) :: r, id => match decEq i id with
  | isTrue _ => hdel r id
  | isFalse _ => (i, o) :: hdel r id
def hset : Heap → Id → Obj → Heap
 | [], id, o => [(id, o)]
 | (i, p) :: r, id, o => match decEq i id with
  | isTrue _ => (id, o) :: r
  | isFalse _ => (i, p) :: hset r id o
def hdels (h : Heap) : List Id → Heap
 | [] => h
 | i :: r => hdels (hdel h i) r
def hsets (h : Heap) : Heap → Heap
 | [] => h
 | (i, o) :: r => hset (hsets h r) i o
def lenO (o : Obj) : Nat := match o.el with
 | .data _ xs => xs.length
 | .mix xs => xs.length
def sizeOf? (P : Program) (t : TypeId) : Option Nat := match P.info? t with
 | some i => some i.size
 | none => none
def elemOf? (P : Program) (t : TypeId) : Option TypeId := match P.underlying t with
 | some (.slice e) => some e
 | _ => none
def isAgg? (P : Program) (t : TypeId) : Option Bool := match P.underlying t with
 | some (.struct _) => some true
 | some (.array _ _) => some true
 | some _ => some false
 | none => none
def flatTy : Ty → List Ty
 | .st ts => ts
 | t => [t]
def tyOf (P : Program) : Nat → TypeId → Option Ty
 | 0, _ => none
 | n + 1, t => match P.underlying t with
  | some (.int k) => some (.int k)
  | some .bool => some .bool
  | some .string => some .str
  | some (.slice e) => match tyOf P n e with
   | some u => some (.sl e u)
   | none => none
  | some (.struct fs) => match fs.toList.foldr (fun f acc => match tyOf P n f.type, acc with | some u, some l => some (flatTy u ++ l) | _, _ => none) (some []) with
   | some l => some (.st l)
   | none => none
  | some (.array m e) => match tyOf P n e with
   | some u => some (.st ((List.replicate m (flatTy u)).flatten))
   | none => none
  | _ => none
def DEPTH : Nat := 12
structure RB where
 params : Array Tmp
 assign : Code
 body : Code
def rfsOf : Nat → Code → List (Nat × RB)
 | b, .seq x y => rfsOf b x ++ rfsOf b y
 | b, .cond _ x y => rfsOf b x ++ rfsOf b y
 | _, .block id c => rfsOf id c
 | b, .loop c => rfsOf b c
 | b, .rangeFunc _ ps x y => [(b, ⟨ps, x, y⟩)]
 | _, _ => []
def rfFind (b : Nat) : List (Nat × RB) → Option RB
 | [] => none
 | (c, x) :: r => match Nat.beq b c with
  | true => some x
  | false => rfFind b r
def rfNo (b : Nat) : List (Nat × RB) → Bool
 | [] => true
 | (c, _) :: r => match Nat.beq b c with
  | true => false
  | false => rfNo b r
def rfOnce (b : Nat) : List (Nat × RB) → Bool
 | [] => false
 | (c, _) :: r => match Nat.beq b c with
  | true => rfNo b r
  | false => rfOnce b r
def rfsAt (P : Program) (f : FuncId) : List (Nat × RB) := match P.funcs[f]? with
 | some fn => match fn.body with
  | some c => rfsOf 0 c
  | none => []
 | none => []
def BLOCKS : Nat := 65536
def roundOf (P : Program) (code : Nat) : Option RB := rfFind (code % BLOCKS) (rfsAt P (code / BLOCKS))
def RND : Nat := 4294967296
def notY : Fn → Bool
 | .yield _ => false
 | _ => true
def ofV : Value → AV
 | .int k n => vi k n
 | .bool b => vb b
 | .string s => vs s
 | .slice none 0 0 => .nils
 | .pointer none => .nilp
 | .nilFunc => .nilf
 | .func f a b => match a.toList, b.toList, notY f with
  | [], [], true => .fn f [] []
  | _, _, _ => .top
 | .tuple a => match a.toList with
  | [] => .undef
  | _ => .top
 | _ => .top
def zeroV (P : Program) (t : TypeId) : Option Value := match P.info? t with
 | some i => match i.zero with
  | some z => match z.cells.toList.all (fun c => c.oneCell') with
   | true => some z
   | false => none
  | none => none
 | none => none
def zeroA (P : Program) (t : TypeId) : Option AV := match zeroV P t with
 | some (.agg cs) => some (mkA (cs.toList.map ofV))
 | some z => some (ofV z)
 | none => none
def rowD (ty : Ty) : AV → Option (List ty.T)
 | .nils => some []
 | .bv 0 _ u xs => castL u ty xs
 | .d ⟨.sl _ u, xs⟩ => castL u ty xs
 | _ => none
def dTo (t : Ty) (x : AV) : Option t.T := match x with
 | .d y => castT y.t t y.x
 | _ => none
def cellTo (t : Ty) (x : AV) : Option t.T := match t with
 | .sl _ u => rowD u x
 | .int k => dTo (.int k) x
 | .bool => dTo .bool x
 | .str => dTo .str x
 | .st _ => none
def cellsTo : (ts : List Ty) → List AV → Option (Ty.Ts ts)
 | [], [] => some ()
 | t :: r, x :: xs => match cellTo t x, cellsTo r xs with
  | some y, some ys => some (y, ys)
  | _, _ => none
 | _, _ => none
def toSt (ts : List Ty) (x : AV) : Option (Ty.Ts ts) := match dTo (.st ts) x with
 | some z => some z
 | none => cellsTo ts (cellsA x)
def toTy (t : Ty) (x : AV) : Option t.T := match t with
 | .st ts => toSt ts x
 | .sl e u => cellTo (.sl e u) x
 | .int k => cellTo (.int k) x
 | .bool => cellTo .bool x
 | .str => cellTo .str x
def giveCell (h : Heap) : AV → AV × List Id
 | .ref id => match hget h id with
  | some ⟨e, _, .data ty xs⟩ => (.bv 0 e ty xs, [id])
  | _ => (.ref id, [])
 | .cut id off len => match hget h id with
  | some ⟨e, _, .data ty xs⟩ => (.bv 0 e ty ((xs.drop off).take len), [id])
  | _ => (.cut id off len, [])
 | x => (x, [])
def giveCells (h : Heap) : List AV → List AV × List Id
 | [] => ([], [])
 | x :: r => match giveCell h x, giveCells h r with
  | (y, a), (ys, b) => (y :: ys, a ++ b)
def give (h : Heap) (x : AV) : AV × List Id := match x with
 | .agg xs => match giveCells h xs with
  | (ys, l) => (mkA ys, l)
 | x => giveCell h x
def gives (h : Heap) : List AV → List AV × List Id
 | [] => ([], [])
 | x :: r => match give h x, gives h r with
  | (y, a), (ys, b) => (y :: ys, a ++ b)
def toTys (t : Ty) : List AV → Option (List t.T)
 | [] => some []
 | x :: r => match toTy t x, toTys t r with
  | some y, some ys => some (y :: ys)
  | _, _ => none
def chunk {α : Type} (g : Nat) : Nat → List α → List (List α)
 | 0, _ => []
 | n + 1, xs => xs.take g :: chunk g n (xs.drop g)
def one (xs : List AV) : AV := match xs with
 | [x] => x
 | xs => mkA xs
def readO (o : Obj) (i off n : Nat) (agg : Bool) : Option AV := match o.el with
 | .data ty xs =>
  let x : DV := ⟨ty, xs.getD i (zeroT ty)⟩
  match Nat.ble (off + n) o.g with
  | true => match agg with
   | true => match Nat.beq off 0 && Nat.beq n o.g && Nat.beq ty.sz n && isSt ty with
    | true => some (.d x)
    | false => some (.d (packD (((cellsD x).drop off).take n)))
   | false => match (cellsD x)[off]? with
    | some y => some (.d y)
    | none => none
  | false => match agg && Nat.beq i 0 && Nat.beq off 0 && Nat.beq n (xs.length * o.g) with
   | true => some (.d (packD (xs.flatMap fun z => cellsD ⟨ty, z⟩)))
   | false => none
 | .mix xs =>
  let x := xs.getD i .top
  match Nat.ble (off + n) o.g with
  | true => match agg with
   | true => some (mkA (((cellsA x).drop off).take n))
   | false => (cellsA x)[off]?
  | false => match agg && Nat.beq i 0 && Nat.beq off 0 && Nat.beq n (xs.length * o.g) with
   | true => some (mkA (xs.flatMap cellsA))
   | false => none
def elsA : El → List AV
 | .data ty xs => xs.map fun z => .d ⟨ty, z⟩
 | .mix xs => xs
def hasNil : List AV → Bool
 | [] => false
 | .nils :: _ => true
 | _ :: r => hasNil r
def hasNils : List AV → Bool
 | [] => false
 | x :: r => hasNil (cellsA x) || hasNils r
def writeO (o : Obj) (i off : Nat) (v : AV) : Option Obj :=
 let n := (cellsA v).length
 let mixed : Option Obj := match Nat.ble (off + n) o.g with
  | true => some { o with el := .mix ((elsA o.el).set i (match Nat.beq o.g 1 && Nat.beq n 1 with | true => v | false => .agg (setCells (cellsA ((elsA o.el).getD i .top)) off (cellsA v)))) }
  | false => match Nat.beq i 0 && Nat.beq off 0 && Nat.beq n (lenO o * o.g) with
   | true => some { o with el := .mix ((chunk o.g (lenO o) (cellsA v)).map one) }
   | false => none
 match o.el with
 | .data ty xs => match Nat.ble (off + n) o.g with
  | true => match Nat.beq off 0 && Nat.beq n o.g with
   | true => match hasNil (cellsA v), toTy ty v with
    | false, some y => some { o with el := .data ty (xs.set i y) }
    | _, _ => mixed
   | false => match hasNil (cellsA v), toTy ty (.agg (setCells (cellsA (.d ⟨ty, xs.getD i (zeroT ty)⟩)) off (cellsA v))) with
    | false, some y => some { o with el := .data ty (xs.set i y) }
    | _, _ => mixed
  | false => match Nat.beq i 0 && Nat.beq off 0 && Nat.beq n (xs.length * o.g) with
   | true => match toTys ty ((chunk o.g xs.length (cellsA v)).map one) with
    | some ys => some { o with el := .data ty ys }
    | none => mixed
   | false => none
 | .mix _ => mixed
def binInt (op : BinOp) (k : IntKind) (a b : Int) : Option AV := match op with
 | .add => some (vi k (k.wrap (a + b)))
 | .sub => some (vi k (k.wrap (a - b)))
 | .mul => some (vi k (k.wrap (a * b)))
 | .and => some (vi k (k.wrap (BitVec.ofInt k.bits a &&& BitVec.ofInt k.bits b).toNat))
 | .or => some (vi k (k.wrap (BitVec.ofInt k.bits a ||| BitVec.ofInt k.bits b).toNat))
 | .xor => some (vi k (k.wrap (BitVec.ofInt k.bits a ^^^ BitVec.ofInt k.bits b).toNat))
 | .andNot => some (vi k (k.wrap (BitVec.ofInt k.bits a &&& ~~~BitVec.ofInt k.bits b).toNat))
 | .eql => some (vb (a == b))
 | .neq => some (vb (a != b))
 | .lss => some (vb (decide (a < b)))
 | .leq => some (vb (decide (a ≤ b)))
 | .gtr => some (vb (decide (a > b)))
 | .geq => some (vb (decide (a ≥ b)))
 | _ => none
def binStr (op : BinOp) (a b : ByteArray) : Option AV := match op with
 | .eql => some (vb (a.toList == b.toList))
 | .neq => some (vb (!(a.toList == b.toList)))
 | .lss => some (vb (Op.bytesLess a.toList b.toList))
 | .leq => some (vb (Op.bytesLess a.toList b.toList || a.toList == b.toList))
 | .gtr => some (vb (!(Op.bytesLess a.toList b.toList || a.toList == b.toList)))
 | .geq => some (vb (!(Op.bytesLess a.toList b.toList)))
 | _ => none
def eqInt : List DV → List DV → Option Bool
 | [⟨.int k, a⟩], [⟨.int l, b⟩] => match decEq k l with
  | isTrue _ => some (i_ a == i_ b)
  | isFalse _ => none
 | _, _ => none
def eqBool : List DV → List DV → Option Bool
 | [⟨.bool, a⟩], [⟨.bool, b⟩] => some (b_ a == b_ b)
 | _, _ => none
def eqStr : List DV → List DV → Option Bool
 | [⟨.str, a⟩], [⟨.str, b⟩] => some (s_ a == s_ b)
 | _, _ => none
def eqFs (P : Program) (f : TypeId → List DV → List DV → Option Bool) : List Field → List DV → List DV → Option Bool
 | [], _, _ => some true
 | fd :: r, xs, ys => match decEq fd.name "_", sizeOf? P fd.type with
  | isFalse _, some n => match Nat.ble (fd.offset + n) xs.length && Nat.ble (fd.offset + n) ys.length, f fd.type ((xs.drop fd.offset).take n) ((ys.drop fd.offset).take n), eqFs P f r xs ys with
   | true, some a, some b => some (a && b)
   | _, _, _ => none
  | _, _ => none
def eqV (P : Program) : Nat → TypeId → List DV → List DV → Option Bool
 | 0, _, _, _ => none
 | n + 1, t, xs, ys => match P.underlying t with
  | some (.int _) => eqInt xs ys
  | some .bool => eqBool xs ys
  | some .string => eqStr xs ys
  | some (.struct fs) => match P.stoodInHeld t with
   | false => eqFs P (eqV P n) fs.toList xs ys
   | true => none
  | _ => none
def isNil : AV → Option AV
 | .nils => some (vb true)
 | .nilp => some (vb true)
 | .nilf => some (vb true)
 | .ptr _ _ _ => some (vb false)
 | .vptr _ _ => some (vb false)
 | .fn _ _ _ => some (vb false)
 | .d ⟨.sl _ _, xs⟩ => some (.nt (l_ xs).isEmpty true)
 | .bv _ _ _ xs => some (.nt xs.isEmpty true)
 | _ => none
def isNilA : AV → Bool
 | .nils => true
 | .nilp => true
 | .nilf => true
 | _ => false
def fitsNil (P : Program) (t : TypeId) (a : AV) : Bool := match P.underlying t, a with
 | some (.slice _), .nils => true
 | some (.slice _), .d ⟨.sl _ _, _⟩ => true
 | some (.slice _), .bv _ _ _ _ => true
 | some (.pointer _), .nilp => true
 | some (.pointer _), .ptr _ _ _ => true
 | some (.pointer _), .vptr _ _ => true
 | some (.func _ _ _), .nilf => true
 | some (.func _ _ _), .fn _ _ _ => true
 | _, _ => false
def eqA (P : Program) (t : TypeId) (a b : AV) : Option AV := match a, b with
 | .d ⟨.bool, x⟩, .d ⟨.bool, y⟩ => match P.underlying t with
  | some .bool => some (vb (b_ x == b_ y))
  | _ => none
 | .d ⟨.st ts, x⟩, .d ⟨.st us, y⟩ => match P.eqGuardType P.depth t, P.underlying t with
  | false, some (.struct _) => match eqV P Op.maxDepth t (cellsT ts x) (cellsT us y) with
   | some r => some (vb r)
   | none => none
  | _, _ => none
 | a, b => match fitsNil P t a && fitsNil P t b with
  | true => match isNilA b with
   | true => isNil a
   | false => match isNilA a with
    | true => isNil b
    | false => none
  | false => none
def notA : AV → Option AV
 | .d ⟨.bool, b⟩ => some (vb (!(b_ b)))
 | .nt a b => some (.nt a (!b))
 | _ => none
def cond_ (b : Bool) (x y : Option Bool) : Option Bool := match b with
 | true => x
 | false => y
def meet (x y : Option Bool) : Option Bool := match x, y with
 | some a, some b => match a == b with
  | true => some a
  | false => none
 | _, _ => none
def binE (P : Program) (ty : TypeId) (op : BinOp) (x y : AV) : Option (Bool × AV) := match x, y with
 | .d ⟨.int ka, a⟩, .d ⟨.int kb, b⟩ => match op with
  | .shl => some (decide (0 ≤ i_ b), vi ka (ka.wrap (i_ a * 2 ^ (min (i_ b).toNat ka.bits))))
  | .shr => some (decide (0 ≤ i_ b), vi ka ((i_ a).fdiv (2 ^ (min (i_ b).toNat ka.bits))))
  | .quo => match decEq ka kb with
   | isTrue _ => some (!(i_ b == 0), vi ka (ka.wrap ((i_ a).tdiv (i_ b))))
   | isFalse _ => none
  | .rem => match decEq ka kb with
   | isTrue _ => some (!(i_ b == 0), vi ka ((i_ a).tmod (i_ b)))
   | isFalse _ => none
  | op => match decEq ka kb with
   | isTrue _ => match binInt op ka (i_ a) (i_ b) with
    | some z => some (true, z)
    | none => none
   | isFalse _ => none
 | .d ⟨.str, a⟩, .d ⟨.str, b⟩ => match op with
  | .add => some (Nat.ble ((s_ a).size + (s_ b).size) 9223372036854775807, vs (s_ a ++ s_ b))
  | op => match binStr op (s_ a) (s_ b) with
   | some z => some (true, z)
   | none => none
 | x, y => match op with
  | .eql => match eqA P ty x y with
   | some t => some (true, t)
   | none => none
  | .neq => match eqA P ty x y with
   | some t => match notA t with
    | some t => some (true, t)
    | none => none
   | none => none
  | _ => none
def unA (op : UnOp) (x : AV) : Option AV := match op, x with
 | .neg, .d ⟨.int k, n⟩ => some (vi k (k.wrap (0 - i_ n)))
 | .xor, .d ⟨.int k, n⟩ => some (vi k (k.wrap (BitVec.ofInt k.bits (if k.signed then -1 else k.max) ^^^ BitVec.ofInt k.bits (i_ n)).toNat))
 | .not, x => notA x
 | _, _ => none
def bytesI (s : ByteArray) : List Int := s.data.toList.map fun b => (b.toNat : Int)
def lenA (h : Heap) : AV → Option Nat
 | .d ⟨.str, s⟩ => some (s_ s).size
 | .nils => some 0
 | .d ⟨.sl _ _, xs⟩ => some (l_ xs).length
 | .bv _ _ _ xs => some xs.length
 | .cut _ _ n => some n
 | .ref id => match hget h id with
  | some o => some (lenO o)
  | none => none
 | _ => none
def rowTo (h : Heap) (ty : Ty) : AV → Option (List ty.T)
 | .nils => some []
 | .d ⟨.sl _ u, xs⟩ => castL u ty xs
 | .bv _ _ u xs => castL u ty xs
 | .d ⟨.str, s⟩ => castL (.int .u8) ty (bytesI (s_ s))
 | .ref id => match hget h id with
  | some ⟨_, _, .data u xs⟩ => castL u ty xs
  | _ => none
 | .cut id off len => match hget h id with
  | some ⟨_, _, .data u xs⟩ => castL u ty ((xs.drop off).take len)
  | _ => none
 | _ => none
def rowA (h : Heap) : AV → Option (List AV)
 | .nils => some []
 | .ref id => match hget h id with
  | some o => some (elsA o.el)
  | _ => none
 | .cut id off len => match hget h id with
  | some o => some (((elsA o.el).drop off).take len)
  | _ => none
 | .bv 0 _ ty xs => some (xs.map fun z => .d ⟨ty, z⟩)
 | .d ⟨.sl _ ty, xs⟩ => some ((l_ xs).map fun z => .d ⟨ty, z⟩)
 | _ => none
def footA : AV → List Id
 | .ref id => [id]
 | .cut id _ _ => [id]
 | .ptr id _ _ => [id]
 | _ => []
def evalA (sl : List AV) : Operand → AV
 | .tmp t => sl.getD t .undef
 | .const x => ofV x
 | .global _ => .top
 | .func f => .fn (.func f) [] []
def idx (x : AV) : Option Int := match x with
 | .d ⟨.int _, n⟩ => some (i_ n)
 | _ => none
structure Eff where
 ok : Bool
 val : AV
 del : List Id
 set : Heap
def val1 (x : AV) : Option Eff := some ⟨true, x, [], []⟩
def intoEl (P : Program) (t : TypeId) (g : Nat) (xs : List AV) : El := match tyOf P DEPTH t with
 | some ty => match Nat.beq ty.sz g, toTys ty xs with
  | true, some ys => .data ty ys
  | _, _ => .mix xs
 | none => .mix xs
def intoVar (P : Program) (t : TypeId) (g : Nat) (xs : List AV) : El := match hasNils xs with
 | true => .mix xs
 | false => intoEl P t g xs
def virtD : AV → AV
 | .d ⟨.sl e ty, xs⟩ => .bv 0 e ty xs
 | x => x
def lone (x : AV) : AV := match x with
 | .agg [.ref i] => .ref i
 | .agg [.cut i a b] => .cut i a b
 | .agg [.nils] => .nils
 | .agg xs => .agg (xs.map virtD)
 | x => x
def varObj (P : Program) (t : TypeId) (v : AV) : Option Obj := match P.underlying t with
 | some (.array n e) => match sizeOf? P e with
  | some g => match Nat.beq ((cellsA v).length) (n * g) && Nat.blt 0 g && Nat.blt 0 n && Nat.ble n 4294967296 with
   | true => some ⟨t, g, intoVar P e g ((chunk g n (cellsA v)).map one)⟩
   | false => none
  | none => none
 | some _ => match sizeOf? P t with
  | some g => match Nat.beq ((cellsA v).length) g && Nat.blt 0 g with
   | true => some ⟨t, g, intoVar P t g [lone v]⟩
   | false => none
  | none => none
 | none => none
def placed (xs : List AV) (parts : List (Nat × AV)) (place : Nat → Option (Nat × Nat)) : Option (List AV) := match parts with
 | [] => some xs
 | (i, v) :: r => match place i with
  | some (off, n) => match !isTop v && Nat.beq (cellsA v).length n && Nat.ble (off + n) xs.length with
   | true => placed (setCells xs off (cellsA v)) r place
   | false => none
  | none => none
def partsOf (sl : List AV) (ps : List (Nat × Operand)) : List (Nat × AV) := ps.map fun p => (p.1, evalA sl p.2)
def partA (agg : Bool) (cs : List AV) (off n : Nat) : Option AV := match agg with
 | true => match Nat.ble (off + n) cs.length with
  | true => some (mkA ((cs.drop off).take n))
  | false => none
 | false => cs[off]?
def LIMIT : Nat := 140737488355328
def cutG (h : Heap) (g : Nat) : AV → Bool
 | .nils => true
 | .d ⟨.sl _ ty, _⟩ => Nat.beq ty.sz g
 | .bv _ _ ty _ => Nat.beq ty.sz g
 | .ref id => match hget h id with
  | some o => Nat.beq o.g g
  | none => false
 | .cut id _ _ => match hget h id with
  | some o => Nat.beq o.g g
  | none => false
 | _ => false
def cutA (h : Heap) (x : AV) (lo len : Nat) (whole : Bool) : Option AV := match x with
 | .nils => some .nils
 | .d ⟨.sl e ty, xs⟩ => some (match whole with | true => .bv 0 e ty xs | false => .bv 0 e ty (((l_ xs).drop lo).take len))
 | .bv t e ty xs => some (match whole with | true => .bv t e ty xs | false => .bv t e ty ((xs.drop lo).take len))
 | .ref id => match hget h id with
  | some _ => some (match whole with | true => .ref id | false => .cut id lo len)
  | none => none
 | .cut id o n => some (match whole with | true => .cut id o n | false => .cut id (o + lo) len)
 | _ => none
def isStrA : AV → Bool
 | .d ⟨.str, _⟩ => true
 | _ => false
def zOk (i : TypeInfo) : Bool := match i.zero with
 | some z => Nat.beq z.cells.size i.size
 | none => false
def fitsE (i : TypeInfo) (n : Nat) : Bool := Nat.ble (n * (max i.bytes 1)) LIMIT
def appendD (i : TypeInfo) (h : Heap) (me : Id) (e : TypeId) (ty : Ty) (xs : List ty.T) (del : List Id) (x : AV) : Option Eff := match rowTo h ty x with
 | some ys => some ⟨fitsE i (xs.length + ys.length), .ref me, del, [(me, ⟨e, i.size, .data ty (xs ++ ys)⟩)]⟩
 | none => none
def appendD0 (i : TypeInfo) (h : Heap) (me : Id) (e : TypeId) (ty : Ty) (x : AV) : Option Eff := match rowTo h ty x with
 | some ys => some ⟨fitsE i ys.length, .ref me, [], [(me, ⟨e, i.size, .data ty ys⟩)]⟩
 | none => none
def sameRow (i : TypeInfo) (e : TypeId) (f : TypeId) (g : Nat) : Bool := Nat.beq f e && Nat.beq g i.size
def rowOk (h : Heap) (g : Nat) : AV → Bool
 | .ref id => match hget h id with
  | some o => Nat.beq o.g g
  | none => false
 | .cut id _ _ => match hget h id with
  | some o => Nat.beq o.g g
  | none => false
 | .bv _ _ ty _ => Nat.beq ty.sz g
 | .d ⟨.sl _ ty, _⟩ => Nat.beq ty.sz g
 | _ => true
def appendM (i : TypeInfo) (h : Heap) (me : Id) (e : TypeId) (xs : List AV) (del : List Id) (x : AV) : Option Eff := match (match rowOk h i.size x with | true => rowA h x | false => none) with
 | some ys => some ⟨fitsE i (xs.length + ys.length), .ref me, del, [(me, ⟨e, i.size, .mix (xs ++ ys)⟩)]⟩
 | none => none
def appendE (P : Program) (h : Heap) (me : Id) (t : TypeId) (s x : AV) : Option Eff := match elemOf? P t with
 | some e => match P.info? e with
  | some i => match Nat.blt 0 i.size && zOk i with
   | true => match s with
    | .nils => match tyOf P DEPTH e with
     | some ty => match Nat.beq ty.sz i.size with
      | true => appendD0 i h me e ty x
      | false => none
     | none => appendM i h me e [] [] x
    | .ref id => match hget h id with
     | some ⟨f, g, .data ty xs⟩ => match sameRow i e f g && Nat.beq ty.sz i.size with
      | true => appendD i h me e ty xs [id] x
      | false => none
     | some ⟨f, g, .mix xs⟩ => match sameRow i e f g with
      | true => appendM i h me e xs [id] x
      | false => none
     | none => none
    | .cut id 0 n => match hget h id with
     | some ⟨f, g, .data ty xs⟩ => match sameRow i e f g && Nat.beq ty.sz i.size with
      | true => appendD i h me e ty (xs.take n) [id] x
      | false => none
     | some ⟨f, g, .mix xs⟩ => match sameRow i e f g with
      | true => appendM i h me e (xs.take n) [id] x
      | false => none
     | none => none
    | _ => none
   | false => none
  | none => none
 | none => none
def zeroD (P : Program) (e : TypeId) (ty : Ty) : Option ty.T := match zeroA P e with
 | some z => match isTop z with
  | false => toTy ty z
  | true => none
 | none => none
def appendZ (P : Program) (h : Heap) (me : Id) (t : TypeId) (s : AV) (n : Int) : Option Eff := match elemOf? P t with
 | some e => match P.info? e, tyOf P DEPTH e with
  | some i, some ty => match Nat.blt 0 i.size && Nat.beq ty.sz i.size && zOk i, zeroD P e ty with
   | true, some z => match s with
    | .nils => some ⟨decide (0 ≤ n) && fitsE i n.toNat, .ref me, [], [(me, ⟨e, i.size, .data ty (List.replicate n.toNat z)⟩)]⟩
    | .ref id => match hget h id with
     | some ⟨f, g, .data u xs⟩ => match sameRow i e f g, castL u ty xs with
      | true, some xs => some ⟨decide (0 ≤ n) && fitsE i (xs.length + n.toNat), .ref me, [id], [(me, ⟨e, i.size, .data ty (xs ++ List.replicate n.toNat z)⟩)]⟩
      | _, _ => none
     | _ => none
    | _ => none
   | _, _ => none
  | _, _ => none
 | none => none
def copyD (h : Heap) (z : Nat) (id : Id) (off len : Nat) (s : AV) : Option Eff := match hget h id with
 | some ⟨f, g, .data ty xs⟩ => match Nat.beq z g && Nat.beq ty.sz g && !isStrA s, rowTo h ty s with
  | true, some ys => some ⟨true, vi .i64 (Nat.min ys.length len : Nat), [], [(id, ⟨f, g, .data ty (setCells xs off (ys.take len))⟩)]⟩
  | _, _ => none
 | _ => none
def copyE (P : Program) (h : Heap) (t : TypeId) (d s : AV) : Option Eff := match elemOf? P t with
 | some e => match sizeOf? P e, d with
  | some z, .ref id => match hget h id with
   | some o => copyD h z id 0 (lenO o) s
   | none => none
  | some z, .cut id off len => copyD h z id off len s
  | _, _ => none
 | none => none
def clearE (P : Program) (h : Heap) (t : TypeId) (d : AV) : Option Eff := match elemOf? P t with
 | some e => match P.info? e, tyOf P DEPTH e with
  | some i, some ty => match Nat.blt 0 i.size && Nat.beq ty.sz i.size && zOk i, zeroD P e ty with
   | true, some z => match d with
    | .cut id off len => match hget h id with
     | some ⟨f, g, .data u xs⟩ => match sameRow i e f g, castL u ty xs with
      | true, some xs => some ⟨true, .undef, [], [(id, ⟨e, i.size, .data ty (setCells xs off (List.replicate len z))⟩)]⟩
      | _, _ => none
     | _ => none
    | _ => none
   | _, _ => none
  | _, _ => none
 | none => none
def minA (x : AV) : List AV → Option AV
 | [] => some x
 | y :: r => match x, y with
  | .d ⟨.int a, m⟩, .d ⟨.int _, n⟩ => minA (vi a (if i_ n < i_ m then i_ n else i_ m)) r
  | _, _ => none
def maxA (x : AV) : List AV → Option AV
 | [] => some x
 | y :: r => match x, y with
  | .d ⟨.int a, m⟩, .d ⟨.int _, n⟩ => maxA (vi a (if i_ m < i_ n then i_ n else i_ m)) r
  | _, _ => none
def lenTy (P : Program) (t : Option TypeId) (x : AV) : Bool := match t with
 | some t => match P.underlying t, isStrA x with
  | some .string, true => true
  | some (.slice _), false => true
  | _, _ => false
 | none => false
def builtinE (P : Program) (h : Heap) (me : Id) (b : Builtin) (ts : Array TypeId) (xs : List AV) : Option Eff := match b, xs with
 | .len, [x] => match lenTy P ts[0]? x, lenA h x with
  | true, some n => val1 (vi .i64 (n : Nat))
  | _, _ => none
 | .min, x :: ys => match minA x ys with
  | some z => val1 z
  | none => none
 | .max, x :: ys => match maxA x ys with
  | some z => val1 z
  | none => none
 | .append, [s, x] => match ts.toList with
  | [t, u] => match P.underlying u, isStrA x, x with
   | some (.int _), _, .d ⟨.int _, n⟩ => appendZ P h me t s (i_ n)
   | some (.slice _), false, x => appendE P h me t s x
   | some .string, true, x => appendE P h me t s x
   | _, _, _ => none
  | _ => none
 | .copy, [d, s] => match ts[0]? with
  | some t => copyE P h t d s
  | none => none
 | .clear, [d] => match ts[0]? with
  | some t => clearE P h t d
  | none => none
 | _, _ => none
def fieldOf? (P : Program) (t : TypeId) (f : Nat) : Option Field := match P.underlying t with
 | some (.struct fs) => fs[f]?
 | _ => none
def strOf (xs : List Int) : ByteArray := ⟨(xs.map fun n => UInt8.ofNat n.toNat).toArray⟩
def sameTs (t : Ty) : (ts : List Ty) → Ty.Ts ts → Option (List t.T)
 | [], _ => some []
 | u :: r, x => match castT u t x.1, sameTs t r x.2 with
  | some y, some ys => some (y :: ys)
  | _, _ => none
def isAggA : AV → Bool
 | .agg _ => true
 | .d ⟨.st _, _⟩ => true
 | _ => false
def isMeth : AV → Bool
 | .fn (.func _) _ _ => false
 | .fn _ _ _ => true
 | _ => false
def one? (P : Program) (e : TypeId) : Bool := match sizeOf? P e, isAgg? P e with
 | some 1, some false => true
 | _, _ => false
def stepE (P : Program) (sl : List AV) (h : Heap) (me : Id) (o : Oper) : Option Eff :=
 let ev := evalA sl
 let made (ob : Obj) (x : AV) : Option Eff := some ⟨true, x, [], [(me, ob)]⟩
 match o.op with
 | .move x => val1 (ev x)
 | .assign x => val1 (ev x)
 | .alloc t => match zeroA P t with
  | some z => match isTop z, varObj P t z with
   | false, some ob => made ob (.ptr me 0 0)
   | _, _ => none
  | none => none
 | .box t x => match isTop (ev x), varObj P t (ev x) with
  | false, some ob => made ob (.ptr me 0 0)
  | _, _ => none
 | .build t ps => match zeroV P t, P.underlying t with
  | some z, some (.struct fs) => match fs.toList.mapM (fun f => (P.info? f.type).map fun i => (f.offset, i.size)) with
   | some pl => match placed (z.cells.toList.map ofV) (partsOf sl ps.toList) (fun i => pl[i]?) with
    | some cs => val1 (mkA cs)
    | none => none
   | none => none
  | some z, some (.array _ e) => match sizeOf? P e with
   | some g => match placed (z.cells.toList.map ofV) (partsOf sl ps.toList) (fun i => some (i * g, g)) with
    | some cs => val1 (mkA cs)
    | none => none
   | none => none
  | _, _ => none
 | .buildSlice t n ps => match elemOf? P t with
  | some e => match sizeOf? P e, zeroV P e with
   | some g, some _ => match gives h ((partsOf sl ps.toList).map (·.2)) with
    | (ys, gone) => match Nat.ble (n * g) 16777216 && Nat.blt 0 g, placed (List.replicate (n * g) .top) (((partsOf sl ps.toList).map (·.1)).zip ys) (fun i => some (i * g, g)) with
     | true, some cs => match intoEl P e g ((chunk g n cs).map one) with
      | .data ty xs => some ⟨true, .ref me, gone, [(me, ⟨e, g, .data ty xs⟩)]⟩
      | .mix _ => match placed (List.replicate (n * g) .top) (partsOf sl ps.toList) (fun i => some (i * g, g)) with
       | some cs => some ⟨true, .ref me, [], [(me, ⟨e, g, .mix ((chunk g n cs).map one)⟩)]⟩
       | none => none
     | _, _ => none
   | _, _ => none
  | none => none
 | .load t a => match sizeOf? P t, isAgg? P t with
  | some n, some g => match ev a with
   | .ptr id i off => match hget h id with
    | some ob => match readO ob i off n g with
     | some x => val1 x
     | none => none
    | none => none
   | .vptr x off => match partA g (cellsA (.d x)) off n with
    | some y => match g && Nat.beq off 0 && Nat.beq n x.t.sz && isSt x.t with
     | true => val1 (.d x)
     | false => val1 y
    | none => none
   | _ => none
  | _, _ => none
 | .store t a x => match sizeOf? P t, ev a with
  | some n, .ptr id i off => match hget h id with
   | some ob => match !isTop (ev x) && Nat.beq (cellsA (ev x)).length n, writeO ob i off (ev x) with
    | true, some ob => some ⟨true, .undef, [], [(id, ob)]⟩
    | _, _ => none
   | none => none
  | _, _ => none
 | .nilCheck x => match isMeth (ev x), isNil (ev x) with
  | false, some (.d ⟨.bool, b⟩) => some ⟨!(b_ b), ev x, [], []⟩
  | _, _ => none
 | .binOp op t x y _ => match binE P t op (ev x) (ev y) with
  | some (b, z) => some ⟨b, z, [], []⟩
  | none => none
 | .unOp op _ x => match unA op (ev x) with
  | some z => val1 z
  | none => none
 | .convert s t x => match P.underlying s, P.underlying t, ev x with
  | some _, some (.int k), .d ⟨.int _, n⟩ => val1 (vi k (k.wrap (i_ n)))
  | some _, some .string, .d ⟨.str, b⟩ => val1 (vs (s_ b))
  | some (.slice e), some .string, y => match P.underlying e, rowTo h (.int .u8) y with
   | some (.int .u8), some xs => val1 (vs (strOf xs))
   | _, _ => none
  | some .string, some (.slice e), .d ⟨.str, b⟩ => match P.underlying e, P.info? e with
   | some (.int .u8), some _ => val1 (.bv 0 e (.int .u8) (bytesI (s_ b)))
   | _, _ => none
  | some (.slice _), some (.slice e), y => match Nat.beq s t, P.underlying e, y with
   | true, some (.int .u8), .ref id => match hget h id with
    | some ⟨e, _, .data ty (x :: xs)⟩ => some ⟨true, .bv 0 e ty (x :: xs), [id], []⟩
    | _ => none
   | _, _, _ => none
  | _, _, _ => none
 | .makeFunc f a c => match notY f with
  | true => val1 (.fn f (a.toList.map ev) (c.toList.map ev))
  | false => none
 | .makeSlice t l c => match elemOf? P t, ev l, ev c with
  | some e, .d ⟨.int _, n⟩, .d ⟨.int _, m⟩ => match P.info? e, tyOf P DEPTH e with
   | some i, some ty => match Nat.blt 0 i.size && Nat.beq ty.sz i.size, zeroD P e ty with
    | true, some z => some ⟨decide (0 ≤ i_ n) && decide (i_ n = i_ m) && fitsE i (i_ n).toNat, .ref me, [], [(me, ⟨e, i.size, .data ty (List.replicate (i_ n).toNat z)⟩)]⟩
    | _, _ => none
   | _, _ => none
  | _, _, _ => none
 | .slice t x lo hi mx =>
  let l : Option Int := match lo with | some y => idx (ev y) | none => some 0
  match P.underlying t, ev x with
  | some .string, .d ⟨.str, s⟩ => match l, (match hi with | some y => idx (ev y) | none => some ((s_ s).size : Int)), mx with
   | some a, some b, none => some ⟨decide (0 ≤ a) && decide (a ≤ b) && decide (b ≤ ((s_ s).size : Int)), vs ((s_ s).extract a.toNat b.toNat), [], []⟩
   | _, _, _ => none
  | some (.array n e), .ptr id 0 0 => match l, (match hi with | some y => idx (ev y) | none => some (n : Int)), mx, hget h id, sizeOf? P e with
   | some a, some b, none, some ob, some g => match Nat.beq ob.g g && Nat.beq (lenO ob) n with
    | true => some ⟨decide (0 ≤ a) && decide (a ≤ b) && decide (b ≤ (n : Int)), match lo, hi with | none, none => .ref id | _, _ => .cut id a.toNat (b - a).toNat, [], []⟩
    | false => none
   | _, _, _, _, _ => none
  | some (.slice e), y => match lenA h y, sizeOf? P e with
   | some n, some g => match cutG h g y, hi, mx with
    | true, none, none => match l with
     | some a => match cutA h y a.toNat (n - a.toNat) (match lo with | none => true | some _ => false) with
      | some z => some ⟨decide (0 ≤ a) && decide (a ≤ (n : Int)), z, [], []⟩
      | none => none
     | none => none
    | true, some hi, none => match l, idx (ev hi) with
     | some a, some b => match cutA h y a.toNat (b - a).toNat false with
      | some z => some ⟨decide (0 ≤ a) && decide (a ≤ b) && decide (b ≤ (n : Int)), z, [], []⟩
      | none => none
     | _, _ => none
    | true, some hi, some mx => match l, idx (ev hi), idx (ev mx) with
     | some a, some b, some c => match cutA h y a.toNat (b - a).toNat false with
      | some z => some ⟨decide (0 ≤ a) && decide (a ≤ b) && decide (b ≤ c) && decide (c ≤ (n : Int)), z, [], []⟩
      | none => none
     | _, _, _ => none
    | _, _, _ => none
   | _, _ => none
  | _, _ => none
 | .fieldAddr t x f => match fieldOf? P t f, ev x with
  | some fd, .ptr id i off => match sizeOf? P fd.type with
   | some (_ + 1) => val1 (.ptr id i (off + fd.offset))
   | _ => none
  | some fd, .vptr y off => match sizeOf? P fd.type with
   | some (_ + 1) => val1 (.vptr y (off + fd.offset))
   | _ => none
  | _, _ => none
 | .field t x f => match fieldOf? P t f with
  | some fd => match sizeOf? P fd.type, isAgg? P fd.type with
   | some n, some g => match isAggA (ev x), partA g (cellsA (ev x)) fd.offset n with
    | true, some y => val1 y
    | _, _ => none
   | _, _ => none
  | none => none
 | .indexAddr t x i => match idx (ev i) with
  | some j => match P.underlying t with
   | some (.slice e) => match ev x with
    | .ref id => match hget h id, sizeOf? P e with
     | some ob, some g => match Nat.beq g ob.g with
      | true => some ⟨decide (0 ≤ j) && decide (j < (lenO ob : Int)), .ptr id j.toNat 0, [], []⟩
      | false => none
     | _, _ => none
    | .cut id off n => match hget h id, sizeOf? P e with
     | some ob, some g => match Nat.beq g ob.g with
      | true => some ⟨decide (0 ≤ j) && decide (j < (n : Int)), .ptr id (off + j.toNat) 0, [], []⟩
      | false => none
     | _, _ => none
    | .d ⟨.sl _ ty, xs⟩ => match sizeOf? P e with
     | some g => match Nat.beq g ty.sz with
      | true => some ⟨decide (0 ≤ j) && decide (j < ((l_ xs).length : Int)), .vptr ⟨ty, (l_ xs).getD j.toNat (zeroT ty)⟩ 0, [], []⟩
      | false => none
     | none => none
    | .bv _ _ ty xs => match sizeOf? P e with
     | some g => match Nat.beq g ty.sz with
      | true => some ⟨decide (0 ≤ j) && decide (j < (xs.length : Int)), .vptr ⟨ty, xs.getD j.toNat (zeroT ty)⟩ 0, [], []⟩
      | false => none
     | none => none
    | _ => none
   | some (.array n e) => match ev x, sizeOf? P e with
    | .ptr id i off, some s => match hget h id with
     | some ob => match Nat.beq ob.g s && Nat.beq i 0 && Nat.beq off 0 && Nat.beq (lenO ob) n with
      | true => some ⟨decide (0 ≤ j) && decide (j < (n : Int)), .ptr id j.toNat 0, [], []⟩
      | false => match Nat.ble (off + n * s) ob.g with
       | true => some ⟨decide (0 ≤ j) && decide (j < (n : Int)), .ptr id i (off + j.toNat * s), [], []⟩
       | false => none
     | none => none
    | _, _ => none
   | _ => none
  | none => none
 | .index t x i => match idx (ev i) with
  | some j => match P.underlying t, ev x with
   | some (.array n e), .d ⟨.st ts, y⟩ => match tyOf P DEPTH e with
    | some ty => match sameTs ty ts y with
     | some ys => match Nat.beq ys.length n && one? P e with
      | true => some ⟨decide (0 ≤ j) && decide (j < (n : Int)), .d ⟨ty, ys.getD j.toNat (zeroT ty)⟩, [], []⟩
      | false => none
     | none => none
    | none => none
   | some .string, .d ⟨.str, s⟩ => some ⟨decide (0 ≤ j) && decide (j < ((s_ s).size : Int)), vi .u8 (((s_ s).data.toList.getD j.toNat 0).toNat : Nat), [], []⟩
   | _, _ => none
  | none => none
 | .extract x i => match ev x with
  | .tup xs => match xs[i]? with
   | some y => val1 y
   | none => none
  | _ => none
 | .call c => match c.callee with
  | .builtin b => builtinE P h me b c.argTypes (c.args.toList.map ev)
  | _ => none
 | _ => none
mutual
def mapA (f : Id → Option Id) : AV → AV
 | .ref i => match f i with
  | some j => .ref j
  | none => .top
 | .cut i a b => match f i with
  | some j => .cut j a b
  | none => .top
 | .ptr i a b => match f i with
  | some j => .ptr j a b
  | none => .top
 | .agg xs => .agg (mapL f xs)
 | .tup xs => .tup (mapL f xs)
 | .fn g a b => .fn g (mapL f a) (mapL f b)
 | .d x => .d x
 | .bv t e ty xs => .bv t e ty xs
 | .nils => .nils
 | .nilp => .nilp
 | .nilf => .nilf
 | .undef => .undef
 | .vptr x o => .vptr x o
 | .nt a b => .nt a b
 | .top => .top
def mapL (f : Id → Option Id) : List AV → List AV
 | [] => []
 | x :: r => mapA f x :: mapL f r
end
def mapO (f : Id → Option Id) (o : Obj) : Obj := match o.el with
 | .data _ _ => o
 | .mix xs => ⟨o.e, o.g, .mix (mapL f xs)⟩
def mapH (f : Id → Option Id) : Heap → Heap
 | [] => []
 | (i, o) :: r => match f i with
  | some j => (j, mapO f o) :: mapH f r
  | none => mapH f r
mutual
def idsA : AV → List Id
 | .ref i => [i]
 | .cut i _ _ => [i]
 | .ptr i _ _ => [i]
 | .agg xs => idsL xs
 | .tup xs => idsL xs
 | .fn _ a b => idsL a ++ idsL b
 | _ => []
def idsL : List AV → List Id
 | [] => []
 | x :: r => idsA x ++ idsL r
end
mutual
def ptrsA : AV → List Id
 | .ptr i _ _ => [i]
 | .agg xs => ptrsL xs
 | .tup xs => ptrsL xs
 | .fn _ a b => ptrsL a ++ ptrsL b
 | _ => []
def ptrsL : List AV → List Id
 | [] => []
 | x :: r => ptrsA x ++ ptrsL r
end
def idsO (o : Obj) : List Id := match o.el with
 | .data _ _ => []
 | .mix xs => idsL xs
def idsAt (h : Heap) (i : Id) : List Id := match hget h i with | some o => idsO o | none => []
def memId (i : Id) : List Id → Bool
 | [] => false
 | j :: r => match decEq j i with
  | isTrue _ => true
  | isFalse _ => memId i r
def reachH (h : Heap) : Nat → List Id → List Id → List Id
 | 0, _, seen => seen
 | _ + 1, [], seen => seen
 | n + 1, i :: r, seen => match memId i seen with
  | true => reachH h n r seen
  | false => match hget h i with
   | some o => reachH h n (idsO o ++ r) (seen ++ [i])
   | none => reachH h n r seen
def FUEL : Nat := 1000
def nth (i : Id) : Nat → List Id → Option Nat
 | _, [] => none
 | n, j :: r => match decEq j i with
  | isTrue _ => some n
  | isFalse _ => nth i (n + 1) r
def isParam : Id → Bool
 | 0 :: _ => true
 | _ => false
def renum (l : List Id) (i : Id) : Option Id := match isParam i with
 | true => some i
 | false => match nth i 0 l with
  | some n => some [1, n]
  | none => none
def paramsH : Heap → List Id
 | [] => []
 | (i, _) :: r => match isParam i with
  | true => i :: paramsH r
  | false => paramsH r
def ltI : Id → Id → Bool
 | _ :: x :: _, _ :: y :: _ => Nat.blt x y
 | _, _ => false
def insI (i : Id) : List Id → List Id
 | [] => [i]
 | j :: r => match ltI j i with
  | true => j :: insI i r
  | false => i :: j :: r
def sortI : List Id → List Id
 | [] => []
 | i :: r => insI i (sortI r)
def paramsOf (h : Heap) : List Id := sortI (paramsH h)
def liveH (h : Heap) (xs : List AV) : List Id := (reachH h FUEL (paramsOf h ++ idsL xs) []).filter fun i => !isParam i
def pickH (h : Heap) : List Id → Heap
 | [] => []
 | i :: r => match hget h i with
  | some o => (i, o) :: pickH h r
  | none => pickH h r
def keepH (l : List Id) (h : Heap) : Heap := pickH h (paramsOf h ++ l)
inductive Ex where
 | normal
 | exit (id : Nat)
 | ret
inductive Prim where
 | give (s : Nat)
 | virt (s : Nat) (e g : Nat)
 | virtP (s c : Nat) (e g : Nat)
 | virtA (s c : Nat) (e g : Nat)
 | giveP (s : Nat)
 | trimP (s c : Nat)
 | trim (s : Nat)
 | freshP (s c : Nat)
structure Plan where
 keep : List Nat
 acts : List Prim
abbrev Hints := FuncId → Nat → Option Plan
def lookP (b : Nat) : List (Nat × Plan) → Option Plan
 | [] => none
 | (c, p) :: r => match Nat.beq b c with
  | true => some p
  | false => lookP b r
def lookF (f : Nat) : List (Nat × List (Nat × Plan)) → List (Nat × Plan)
 | [] => []
 | (g, p) :: r => match Nat.beq f g with
  | true => p
  | false => lookF f r
def hintsOf (t : List (Nat × List (Nat × Plan))) : Hints := fun f b => lookP b (lookF f t)
def memNat (n : Nat) : List Nat → Bool
 | [] => false
 | m :: r => Nat.beq m n || memNat n r
def forget (keep : List Nat) : Nat → List AV → List AV
 | _, [] => []
 | i, x :: r => (match memNat i keep with | true => x | false => .top) :: forget keep (i + 1) r
def trimC (h : Heap) : AV → Option (Id × Obj)
 | .cut id 0 n => match hget h id with
  | some ⟨e, g, .data ty xs⟩ => some (id, ⟨e, g, .data ty (xs.take n)⟩)
  | _ => none
 | _ => none
def freshC (h : Heap) : AV → Option (Id × Obj)
 | .ref id => match hget h id with
  | some ⟨e, g, .data ty xs⟩ => some (id, ⟨e, g, .data ty xs⟩)
  | _ => none
 | _ => none
def slotP (sl : List AV) (s : Nat) : AV := match Nat.blt s 100000 with
 | true => sl.getD s .undef
 | false => match sl.getD (s % 100000) .undef with
  | .fn _ _ cs => cs.getD (s / 100000 - 1) .undef
  | _ => .undef
def okVirt (P : Program) (oe : TypeId) (x : AV) (e : TypeId) : Bool := match x with
 | .nils => match elemOf? P oe with
  | some e' => Nat.beq e e'
  | none => true
 | _ => true
def reC (x : AV) (ys : List AV) : AV := match x with
 | .agg _ => .agg ys
 | .d _ => .agg ys
 | _ => match ys with
  | [.ref i] => .ref i
  | ys => .agg ys
def prim (P : Program) (st : St) : Prim → St
 | .give s => match give st.hp (st.sl.getD s .undef) with
  | (x, l) => ⟨st.sl.set s (virtD x), hdels st.hp l, st.n⟩
 | .virt s e g => match st.sl.getD s .undef, tyOf P DEPTH e with
  | .nils, some ty => match Nat.beq ty.sz g && Nat.blt 0 g with
   | true => ⟨st.sl.set s (.ref [st.n, 0]), (([st.n, 0], ⟨e, g, .data ty []⟩) :: st.hp), st.n + 1⟩
   | false => st
  | _, _ => st
 | .virtP s c e g => match slotP st.sl s, tyOf P DEPTH e with
  | .ptr id _ _, some ty => match Nat.beq ty.sz g && Nat.blt 0 g, hget st.hp id with
   | true, some ⟨oe, og, .mix [x]⟩ => match okVirt P oe x e, (cellsA x)[c]? with
    | true, some .nils => ⟨st.sl, hset (([st.n, 0], ⟨e, g, .data ty []⟩) :: st.hp) id ⟨oe, og, .mix [reC x (setCells (cellsA x) c [.ref [st.n, 0]])]⟩, st.n + 1⟩
    | _, _ => st
   | _, _ => st
  | _, _ => st
 | .virtA s c e g => match st.sl.getD s .undef, tyOf P DEPTH e with
  | .agg xs, some ty => match Nat.beq ty.sz g && Nat.blt 0 g, xs[c]? with
   | true, some .nils => ⟨st.sl.set s (.agg (setCells xs c [.ref [st.n, 0]])), (([st.n, 0], ⟨e, g, .data ty []⟩) :: st.hp), st.n + 1⟩
   | _, _ => st
  | _, _ => st
 | .giveP s => match slotP st.sl s with
  | .ptr id _ _ => match hget st.hp id with
   | some ⟨oe, og, .mix [x]⟩ => match give st.hp (.agg (cellsA x)) with
    | (y, l) => match memId id l || isTop y with
     | true => st
     | false => ⟨st.sl, hset (hdels st.hp l) id ⟨oe, og, intoEl P oe og [y]⟩, st.n⟩
   | _ => st
  | _ => st
 | .trim s => match trimC st.hp (st.sl.getD s .undef) with
  | some (id, o) => ⟨st.sl.set s (.ref [st.n, 0]), (([st.n, 0], o) :: hdel st.hp id), st.n + 1⟩
  | none => st
 | .trimP s c => match slotP st.sl s with
  | .ptr i _ _ => match hget st.hp i with
   | some ⟨oe, og, .mix [x0]⟩ => match (cellsA x0)[c]? with
    | some x => match trimC st.hp x with
     | some (id, o) => match decEq id i with
      | isTrue _ => st
      | isFalse _ => ⟨st.sl, hset (([st.n, 0], o) :: hdel st.hp id) i ⟨oe, og, .mix [reC x0 (setCells (cellsA x0) c [.ref [st.n, 0]])]⟩, st.n + 1⟩
     | none => st
    | none => st
   | _ => st
  | _ => st
 | .freshP s c => match slotP st.sl s with
  | .ptr i _ _ => match hget st.hp i with
   | some ⟨oe, og, .mix [x0]⟩ => match (cellsA x0)[c]? with
    | some x => match freshC st.hp x with
     | some (id, o) => match decEq id i with
      | isTrue _ => st
      | isFalse _ => ⟨st.sl, hset (([st.n, 0], o) :: hdel st.hp id) i ⟨oe, og, .mix [reC x0 (setCells (cellsA x0) c [.ref [st.n, 0]])]⟩, st.n + 1⟩
     | none => st
    | none => st
   | _ => st
  | _ => st
def prims (P : Program) (st : St) : List Prim → St
 | [] => st
 | p :: r => prims P (prim P st p) r
def settle (st : St) : St :=
 let l := liveH st.hp st.sl
 ⟨mapL (renum l) st.sl, mapH (renum l) (keepH l st.hp), 2⟩
def plan (P : Program) (p : Option Plan) (st : St) : St := match p with
 | none => st
 | some p => settle (prims P ⟨forget p.keep 0 st.sl, st.hp, st.n⟩ p.acts)
def BEHIND : Nat := 1000000
def ATRET : Nat := 2000000
def ROUNDS : Nat := 1180591620717411303424
def iter : Nat → (St → St) → (St → (Ex → St → Option Bool) → Option Bool) → St → (Ex → St → Option Bool) → Option Bool
 | 0, _, _, _, _ => none
 | n + 1, pl, body, st, k => body st fun e st => match e with
  | .normal => iter n pl body (pl st) k
  | .exit id => k (.exit id) st
  | .ret => k .ret st
structure Rec where
 foot : List Id
 chg : List Id
 dst : Option Tmp
 looks : List Tmp
 call : Bool
def footE (sl : List AV) (o : Oper) : List Id := match o.op with
 | .load _ _ => o.op.operands.toList.flatMap fun x => idsA (evalA sl x)
 | .store _ _ _ => o.op.operands.toList.flatMap fun x => idsA (evalA sl x)
 | .buildSlice _ _ _ => o.op.operands.toList.flatMap fun x => idsA (evalA sl x)
 | .convert _ _ _ => o.op.operands.toList.flatMap fun x => idsA (evalA sl x)
 | .call _ => o.op.operands.toList.flatMap fun x => idsA (evalA sl x)
 | .indexAddr _ _ _ => o.op.operands.toList.flatMap fun x => idsA (evalA sl x)
 | .slice _ _ _ _ _ => o.op.operands.toList.flatMap fun x => idsA (evalA sl x)
 | _ => []
def recE (all : Array Oper) (sl : List AV) (o : Oper) (e : Eff) : Rec := ⟨footE sl o, e.del ++ e.set.map (·.1), o.dst, o.looksAt all, false⟩
def recC (all : Array Oper) (o : Oper) (e : Eff) (foot : List Id) : Rec := ⟨foot, e.del ++ e.set.map (·.1), o.dst, o.looksAt all, true⟩
def rec0 (all : Array Oper) (o : Oper) : Rec := ⟨[], [], o.dst, o.looksAt all, false⟩
def apply (st : St) (o : Oper) (e : Eff) : St := ⟨match o.dst with | some d => st.sl.set d e.val | none => st.sl, hsets (hdels st.hp e.del) e.set, st.n⟩
def wantedA (all : Array Oper) (st : St) (o : Oper) : Option Bool := match o.guard with
 | none => some true
 | some (j, want) => match (all[j]?).bind (·.dst) with
  | some d => match st.sl.getD d .undef with
   | .d ⟨.bool, b⟩ => some (match want with | true => b_ b | false => !(b_ b))
   | .undef => some false
   | _ => none
  | none => none
abbrev CallF := St → Id → AV → List AV → (Eff → List Id → Option Bool) → Option Bool
def opsK (P : Program) (callf : CallF) (all : Array Oper) : Nat → List Oper → St → List Rec → (St → List Rec → Option Bool) → Option Bool
 | _, [], st, rs, k => k st rs
 | i, o :: rest, st, rs, k => match wantedA all st o with
  | some b => cond_ b
   (match o.op with
   | .pick c x y => match evalA st.sl c with
    | .d ⟨.bool, t⟩ => match evalA st.sl x, evalA st.sl y with
     | .d ⟨.bool, u⟩, .d ⟨.bool, v⟩ => opsK P callf all (i + 1) rest (apply st o ⟨true, vb (match b_ t with | true => b_ u | false => b_ v), [], []⟩) (rs ++ [rec0 all o]) k
     | x, y => cond_ (b_ t) (opsK P callf all (i + 1) rest (apply st o ⟨true, x, [], []⟩) (rs ++ [rec0 all o]) k) (opsK P callf all (i + 1) rest (apply st o ⟨true, y, [], []⟩) (rs ++ [rec0 all o]) k)
    | _ => none
   | .call ⟨.value f, args, _⟩ => callf st [st.n, i] (evalA st.sl f) (args.toList.map (evalA st.sl)) fun e foot => opsK P callf all (i + 1) rest (apply st o e) (rs ++ [recC all o e foot]) k
   | _ => match stepE P st.sl st.hp [st.n, i] o with
    | some e => cond_ e.ok (opsK P callf all (i + 1) rest (apply st o e) (rs ++ [recE all st.sl o e]) k) none
    | none => none)
   (opsK P callf all (i + 1) rest (apply st o ⟨true, .undef, [], []⟩) (rs ++ [rec0 all o]) k)
  | none => none
def apartIds (a b : List Id) : Bool := a.all fun i => !memId i b
def apartRec (x y : Rec) : Bool :=
 apartIds x.chg y.foot && apartIds y.chg x.foot && apartIds x.chg y.chg && !(x.call && y.call) &&
 (match x.dst with | some d => !memNat d y.looks && (match y.dst with | some e => !Nat.beq d e | none => true) | none => true) &&
 (match y.dst with | some d => !memNat d x.looks | none => true)
def bitsOf (ops : List Oper) : List Nat := (ops.foldl (fun (acc : List Nat) (o : Oper) => acc ++ [o.after.toList.foldl (fun b e => match Region.binds .any e with | true => b ||| 2 ^ e.on ||| acc.getD e.on 0 | false => b) 0]) [])
def backOk : Nat → List Oper → Bool
 | _, [] => true
 | j, o :: r => (o.after.toList.all fun e => match Region.binds .any e with | true => Nat.blt e.on j | false => true) && backOk (j + 1) r
def drawOk (ops : Array Oper) (rs : List Rec) : Bool :=
 let B := bitsOf ops.toList
 backOk 0 ops.toList && (List.range rs.length).all fun j => (List.range j).all fun i => (B.getD j 0).testBit i || (match rs[i]?, rs[j]? with | some x, some y => apartRec x y | _, _ => false)
def lowF (m : Nat) : Fn → Bool
 | .yield k => Nat.blt (k % BLOCKS) m
 | _ => true
mutual
def lowA (m : Nat) : AV → Bool
 | .agg xs => lowL m xs
 | .tup xs => lowL m xs
 | .fn f a b => lowF m f && lowL m a && lowL m b
 | _ => true
def lowL (m : Nat) : List AV → Bool
 | [] => true
 | x :: r => lowA m x && lowL m r
end
def lowH (m : Nat) : Heap → Bool
 | [] => true
 | (_, o) :: r => (match o.el with | .data _ _ => true | .mix xs => lowL m xs) && lowH m r
def openM (st : St) : Nat := match lowL 0 st.sl && lowH 0 st.hp with
 | true => 0
 | false => match lowL 1 st.sl && lowH 1 st.hp with
  | true => 1
  | false => 2
def usesC : Code → List Nat
 | .region _ ops _ => ops.toList.flatMap fun o => o.looksAt ops
 | .seq x y => usesC x ++ usesC y
 | .cond c x y => (match c with | .tmp t => [t] | _ => []) ++ (usesC x ++ usesC y)
 | .block _ c => usesC c
 | .loop c => usesC c
 | _ => []
def applyH (st : St) (e : Eff) : St := ⟨st.sl, hsets (hdels st.hp e.del) e.set, st.n + 1⟩
def rangeK (P : Program) (f : FuncId) (callf : CallF) (b : Nat) (g : Operand) (x y : Code) (st : St) (k : St → Option Bool) : Option Bool := match evalA st.sl g with
 | .fn (.func it) first captured => match Nat.blt f RND && (Nat.blt b BLOCKS && (rfOnce b (rfsAt P f) && (lowL (openM st) st.sl && lowH (openM st) st.hp))) with
  | true => callf st [st.n, 0] (.fn (.func it) first captured) [.fn (.yield (openM st + BLOCKS * (f * BLOCKS + b))) [] (forget (usesC x ++ usesC y) 0 st.sl)] fun e _ => match lowH (openM st) (applyH st e).hp with
   | true => k (applyH st e)
   | false => none
  | false => none
 | _ => none
def execK (P : Program) (ht : Hints) (f : FuncId) (callf : CallF) : Nat → Code → St → (Ex → St → Option Bool) → Option Bool
 | _, .skip, st, k => k .normal st
 | _, .label _, st, k => k .normal st
 | _, .region _ ops draw, st, k => opsK P callf ops 0 ops.toList st [] fun st rs => match draw with
  | false => k .normal ⟨st.sl, st.hp, st.n + 1⟩
  | true => match drawOk ops rs with
   | true => k .normal ⟨st.sl, st.hp, st.n + 1⟩
   | false => none
 | b, .seq x y, st, k => execK P ht f callf b x st fun e st => match e with
  | .normal => execK P ht f callf b y st k
  | .exit id => k (.exit id) st
  | .ret => k .ret st
 | b, .cond c x y, st, k => match evalA st.sl c with
  | .d ⟨.bool, t⟩ => cond_ (b_ t) (execK P ht f callf b x st k) (execK P ht f callf b y st k)
  | .nt may yes => cond_ may (meet (execK P ht f callf b x st k) (execK P ht f callf b y st k)) (match yes with | true => execK P ht f callf b y st k | false => execK P ht f callf b x st k)
  | _ => none
 | _, .block id c, st, k => execK P ht f callf id c st fun e st => match e with
  | .exit id' => match Nat.beq id' id with
   | true => k .normal st
   | false => k (.exit id') st
  | .normal => k .normal (plan P (ht f (BEHIND + id)) st)
  | .ret => k .ret st
 | b, .loop c, st, k => iter ROUNDS (plan P (ht f b)) (fun st k => execK P ht f callf b c st k) (plan P (ht f b) st) k
 | _, .exit id, st, k => k (.exit id) (plan P (ht f (BEHIND + id)) st)
 | _, .ret, st, k => k .ret (plan P (ht f ATRET) st)
 | b, .rangeFunc g _ x y, st, k => rangeK P f callf b g x y st (k .normal)
 | _, _, _, _ => none
mutual
def inA (h : Heap) (ids : List Id) (tags : List AV) : AV → Option (AV × List AV)
 | .ref i => match nth i 0 ids with
  | some n => some (.ref [0, n], tags)
  | none => match hget h i with
   | some ⟨e, _, .data ty xs⟩ => some (.bv (tags.length + 1) e ty xs, tags ++ [.ref i])
   | _ => none
 | .cut i a b => match nth i 0 ids with
  | some n => some (.cut [0, n] a b, tags)
  | none => match hget h i with
   | some ⟨e, _, .data ty xs⟩ => some (.bv (tags.length + 1) e ty ((xs.drop a).take b), tags ++ [.ref i])
   | _ => none
 | .ptr i a b => match nth i 0 ids with
  | some n => some (.ptr [0, n] a b, tags)
  | none => none
 | .agg xs => match inL h ids tags xs with
  | some (ys, t) => some (.agg ys, t)
  | none => none
 | .tup xs => match inL h ids tags xs with
  | some (ys, t) => some (.tup ys, t)
  | none => none
 | .fn f x y => match inL h ids tags x with
  | some (x, t) => match inL h ids t y with
   | some (y, t) => some (.fn f x y, t)
   | none => none
  | none => none
 | .d ⟨.sl e ty, xs⟩ => some (.bv 0 e ty xs, tags)
 | .d x => some (.d x, tags)
 | .bv 0 e ty xs => some (.bv 0 e ty xs, tags)
 | .bv (t + 1) e ty xs => some (.bv (tags.length + 1) e ty xs, tags ++ [.bv (t + 1) e ty []])
 | x => some (x, tags)
def inL (h : Heap) (ids : List Id) (tags : List AV) : List AV → Option (List AV × List AV)
 | [] => some ([], tags)
 | x :: r => match inA h ids tags x with
  | some (y, t) => match inL h ids t r with
   | some (ys, t) => some (y :: ys, t)
   | none => none
  | none => none
end
def inHeap (h : Heap) (ids : List Id) : Nat → List Id → List AV → Option (Heap × List AV)
 | _, [], t => some ([], t)
 | n, i :: r, t => match hget h i with
  | some o => match o.el with
   | .data ty xs => match inHeap h ids (n + 1) r t with
    | some (q, t) => some (([0, n], ⟨o.e, o.g, .data ty xs⟩) :: q, t)
    | none => none
   | .mix xs => match inL h ids t xs with
    | some (ys, t) => match inHeap h ids (n + 1) r t with
     | some (q, t) => some (([0, n], ⟨o.e, o.g, .mix ys⟩) :: q, t)
     | none => none
    | none => none
  | none => none
def mixIds (all : Bool) (h : Heap) : List AV → List Id
 | [] => []
 | .ref i :: r => (match hget h i with | some ⟨_, _, .mix _⟩ => [i] | some ⟨_, _, .data _ _⟩ => (match all with | true => [i] | false => []) | none => []) ++ mixIds all h r
 | .cut i _ _ :: r => (match all, hget h i with | true, some _ => [i] | _, _ => []) ++ mixIds all h r
 | _ :: r => mixIds all h r
def outI (me : Id) (ids : List Id) (i : Id) : Option Id := match i with
 | [0, n] => ids[n]?
 | _ => some (me ++ i)
mutual
def outA (me : Id) (ids : List Id) (tags : List AV) : AV → AV
 | .ref i => match outI me ids i with
  | some j => .ref j
  | none => .top
 | .cut i a b => match outI me ids i with
  | some j => .cut j a b
  | none => .top
 | .ptr i a b => match outI me ids i with
  | some j => .ptr j a b
  | none => .top
 | .agg xs => .agg (outL me ids tags xs)
 | .tup xs => .tup (outL me ids tags xs)
 | .fn f x y => .fn f (outL me ids tags x) (outL me ids tags y)
 | .bv (t + 1) e ty xs => match tags[t]? with
  | some (.bv u _ _ _) => .bv u e ty xs
  | some (.ref _) => .bv 0 e ty xs
  | _ => .top
 | .vptr _ _ => .top
 | x => x
def outL (me : Id) (ids : List Id) (tags : List AV) : List AV → List AV
 | [] => []
 | x :: r => outA me ids tags x :: outL me ids tags r
end
def outO (me : Id) (ids : List Id) (tags : List AV) (o : Obj) : Obj := match o.el with
 | .data _ _ => o
 | .mix xs => ⟨o.e, o.g, .mix (outL me ids tags xs)⟩
def outH (me : Id) (ids : List Id) (tags : List AV) : Heap → Heap
 | [] => []
 | (i, o) :: r => match outI me ids i with
  | some j => (j, outO me ids tags o) :: outH me ids tags r
  | none => outH me ids tags r
mutual
def tagsA : AV → List Nat
 | .bv t _ _ _ => [t]
 | .agg xs => tagsL xs
 | .tup xs => tagsL xs
 | .fn _ a b => tagsL a ++ tagsL b
 | _ => []
def tagsL : List AV → List Nat
 | [] => []
 | x :: r => tagsA x ++ tagsL r
end
def tagsH : Heap → List Nat
 | [] => []
 | (_, o) :: r => (match o.el with | .data _ _ => [] | .mix xs => tagsL xs) ++ tagsH r
def gone (tags : List AV) : List Nat → List Id
 | [] => []
 | 0 :: r => gone tags r
 | (t + 1) :: r => (match tags[t]? with | some (.ref i) => [i] | _ => []) ++ gone tags r
def resGo (P : Program) (st : St) : List ResultVar → Option (List AV)
 | [] => some []
 | .tmp t :: r => match resGo P st r with
  | some xs => some (st.sl.getD t .undef :: xs)
  | none => none
 | .cell a t :: r => match st.sl.getD a .undef, sizeOf? P t, isAgg? P t with
  | .ptr id i off, some n, some g => match hget st.hp id with
   | some ob => match readO ob i off n g, resGo P st r with
    | some x, some xs => some (x :: xs)
    | _, _ => none
   | none => none
  | _, _, _ => none
def results? (P : Program) (fn : Func) (st : St) : Option (List AV) := resGo P st fn.results.toList
def virtR (P : Program) (st : St) (h : Heap) : Nat → List AV → List TypeId → List AV × Heap
 | _, [], _ => ([], h)
 | i, .nils :: r, t :: ts => match elemOf? P t with
  | some e => match tyOf P DEPTH e, sizeOf? P e with
   | some ty, some g => match Nat.beq ty.sz g && Nat.blt 0 g with
    | true => match virtR P st (([st.n, i], ⟨e, g, .data ty []⟩) :: h) (i + 1) r ts with
     | (xs, h) => (.ref [st.n, i] :: xs, h)
    | false => match virtR P st h (i + 1) r ts with
     | (xs, h) => (.nils :: xs, h)
   | _, _ => match virtR P st h (i + 1) r ts with
    | (xs, h) => (.nils :: xs, h)
  | none => match virtR P st h (i + 1) r ts with
   | (xs, h) => (.nils :: xs, h)
 | i, x :: r, ts => match virtR P st h (i + 1) r ts.tail with
  | (xs, h) => (x :: xs, h)
def calleeOf (P : Program) (g : AV) (xs : List AV) : Option (FuncId × List AV × Option Nat) := match g with
 | .fn (.func g) first captured => match Nat.blt g RND with
  | true => some (g, first ++ xs ++ captured, none)
  | false => none
 | .fn (.yield key) _ slots => match roundOf P (key / BLOCKS) with
  | some rb => match Nat.beq xs.length rb.params.size with
   | true => some (RND + key / BLOCKS, xs ++ slots, some (key % BLOCKS))
   | false => none
  | none => none
 | _ => none
def lowO (m : Option Nat) (ys : List AV) (h : Heap) : Bool := match m with
 | none => true
 | some m => lowL m ys && lowH m h
def genF (P : Program) (g : FuncId) : Bool := match P.funcs[g]? with
 | some fn => Nat.blt 0 fn.targs.size
 | none => false
def isTmp (t : Nat) : Operand → Bool
 | .tmp u => Nat.beq u t
 | _ => false
def isStrT (P : Program) (t : TypeId) : Bool := match P.underlying t with
 | some .string => true
 | _ => false
def isI64 (P : Program) (t : TypeId) : Bool := match P.underlying t with
 | some (.int .i64) => true
 | _ => false
def opGo (d : Nat) (p : Op → Bool) (o : Oper) : Bool := match o.dst, o.guard with
 | some e, none => Nat.beq e d && p o.op
 | _, _ => false
def pMove (t : Nat) : Op → Bool
 | .move x => isTmp t x
 | _ => false
def pAssign (t : Nat) : Op → Bool
 | .assign x => isTmp t x
 | _ => false
def pBool (c : Bool) : Op → Bool
 | .assign (.const (.bool b)) => match c with | true => b | false => !b
 | _ => false
def pRange (P : Program) (t : Nat) : Op → Bool
 | .range ty x => isTmp t x && isStrT P ty
 | _ => false
def pNext (t : Nat) : Op → Bool
 | .next x b => isTmp t x && b
 | _ => false
def pExt (t i : Nat) : Op → Bool
 | .extract x j => isTmp t x && Nat.beq j i
 | _ => false
def pSub (t : Nat) : Op → Bool
 | .binOp .sub _ x (.const (.int .i32 n)) _ => isTmp t x && decide (n = 48)
 | _ => false
def pConv (P : Program) (t : Nat) : Op → Bool
 | .convert s d x => isTmp t x && ((P.underlying s).isSome && isI64 P d)
 | _ => false
def pEql (t u : Nat) : Op → Bool
 | .binOp .eql _ x y _ => isTmp t x && isTmp u y
 | _ => false
def ops1 (a : Array Oper) (p : Oper → Bool) : Bool := match a.toList with
 | [x] => p x
 | _ => false
def ops2 (a : Array Oper) (p q : Oper → Bool) : Bool := match a.toList with
 | [x, y] => p x && q y
 | _ => false
def ops5 (a : Array Oper) (p q r s t : Oper → Bool) : Bool := match a.toList with
 | [x, y, z, u, v] => p x && (q y && (r z && (s u && t v)))
 | _ => false
def hasC (P : Program) : Code → Bool
 | .seq (.region _ a0 false) (.seq (.seq (.region _ a1 false) (.block b0 (.loop (.seq (.region _ a2 false) (.seq (.cond c1 .skip (.exit b1)) (.block _ (.seq (.region _ a3 false) (.seq (.region _ a4 false) (.cond c2 (.seq (.region _ a5 false) .ret) .skip))))))))) (.seq (.region _ a6 false) .ret)) =>
  Nat.beq b1 b0 && isTmp 10 c1 && isTmp 16 c2 && ops1 a0 (opGo 4 (pBool false)) && ops2 a1 (opGo 7 (pMove 0)) (opGo 8 (pRange P 7)) && ops2 a2 (opGo 9 (pNext 8)) (opGo 10 (pExt 9 0)) && ops2 a3 (opGo 11 (pExt 9 2)) (opGo 6 (pAssign 11)) &&
   ops5 a4 (opGo 12 (pMove 6)) (opGo 13 (pSub 12)) (opGo 14 (pConv P 13)) (opGo 15 (pMove 1)) (opGo 16 (pEql 14 15)) && ops1 a5 (opGo 4 (pBool true)) && ops1 a6 (opGo 4 (pBool false))
 | _ => false
def hasRes (fn : Func) : Bool := match fn.results.toList with
 | [.tmp 4] => Nat.beq fn.ntmps 17
 | _ => false
def hasF (P : Program) (f : FuncId) : Bool := match P.funcs[f]? with
 | some fn => match fn.body with
  | some c => hasRes fn && hasC P c
  | none => false
 | none => false
def ascii (s : ByteArray) : Bool := s.data.toList.all fun b => Nat.blt b.toNat 128
def hasB (s : ByteArray) (n : Int) : Bool := s.data.toList.any fun b => decide ((b.toNat : Int) - 48 = n)
def primE (P : Program) (g : AV) (xs : List AV) : Option (Bool × AV) := match g, xs with
 | .fn (.func f) [] [], [.d ⟨.str, s⟩, .d ⟨.int .i64, n⟩] => match Nat.blt f RND && hasF P f with
  | true => some (ascii (s_ s), vb (hasB (s_ s) (i_ n)))
  | false => none
 | _, _ => none
def callfGo (P : Program) (rec : FuncId → List AV → Heap → (AV → Heap → Option Bool) → Option Bool) : CallF := fun st me g xs k =>
 match calleeOf P g xs with
 | some (g, xs, m) =>
  let ids := reachH st.hp FUEL (ptrsL xs ++ mixIds (genF P g) st.hp xs) []
  match inL st.hp ids [] xs with
  | some (ys, t) => match inHeap st.hp ids 0 ids t with
   | some (hc, t) => match lowO m ys hc with
    | true => rec g ys hc fun res h' => k ⟨true, outA me ids t res, ids ++ gone t (tagsA res ++ tagsH h'), outH me ids t h'⟩ (ids ++ (idsL xs ++ ids.flatMap (idsAt st.hp)))
    | false => none
   | none => none
  | none => none
 | none => none
def callfOf (P : Program) (rec : FuncId → List AV → Heap → (AV → Heap → Option Bool) → Option Bool) : CallF := fun st me g xs k => match primE P g xs with
 | some (b, z) => cond_ b (k ⟨true, z, [], []⟩ []) none
 | none => callfGo P rec st me g xs k
def leave (P : Program) (fn : Func) (k : AV → Heap → Option Bool) : Ex → St → Option Bool := fun e st => match e with
 | .exit _ => none
 | _ => match results? P fn st with
  | some rs => match virtR P st st.hp 0 rs fn.resultTypes.toList with
   | (rs, h) =>
    let l := liveH h rs
    let rs := mapL (renum l) rs
    k (match rs with | [x] => x | xs => .tup xs) (mapH (renum l) (keepH l h))
  | none => none
def handR (k : AV → Heap → Option Bool) (h : Heap) : Option Bool := k (vb true) (mapH (renum (liveH h [])) (keepH (liveH h []) h))
def leaveR (P : Program) (p : Option Plan) (k : AV → Heap → Option Bool) : Ex → St → Option Bool := fun e st => match e with
 | .normal => handR k (plan P p st).hp
 | _ => none
def setPs : List Tmp → List AV → List AV → List AV
 | p :: ps, x :: xs, sl => setPs ps xs (sl.set p x)
 | _, _, sl => sl
def slotsR (rb : RB) (args : List AV) : List AV := setPs rb.params.toList (args.take rb.params.size) (args.drop rb.params.size)
abbrev RecF := FuncId → List AV → Heap → (AV → Heap → Option Bool) → Option Bool
def funS (P : Program) (ht : Hints) (rec : RecF) : RecF := fun f args h k => match P.funcs[f]? with
 | some fn => match fn.body with
  | some c => execK P ht f (callfOf P rec) 0 c ⟨args ++ List.replicate (fn.ntmps - args.length) .undef, h, 2⟩ (leave P fn k)
  | none => none
 | none => none
def roundS (P : Program) (ht : Hints) (rec : RecF) (f n : Nat) (args : List AV) (h : Heap) (k : AV → Heap → Option Bool) : Option Bool := match roundOf P n with
 | some rb => execK P ht f (callfOf P rec) 0 (.seq rb.assign rb.body) ⟨slotsR rb args, h, 2⟩ (leaveR P (ht f ATRET) k)
 | none => none
def callS (P : Program) (ht : Hints) (rec : RecF) : RecF := fun f args h k => cond (Nat.blt f RND) (funS P ht rec f args h k) (roundS P ht rec f (f - RND) args h k)
def callK (P : Program) (ht : Hints) : Nat → RecF
 | 0 => fun _ _ _ _ => none
 | d + 1 => callS P ht (callK P ht d)
end AX
namespace AX
structure Loc where
 b : Option Nat
 n : Nat
 cap : Nat
 g : Nat
 e : TypeId
structure GY where
 l : Nat
 r : Loop
structure Ghost where
 lo : Nat
 y : Nat → Option GY
structure Ctx where
 m : Id → Option Loc
 τ : Nat → Option Nat
 ok : Nat → Prop
 gh : Ghost
def Ctx.rd (C : Ctx) (b : Nat) : Prop := C.ok b ∨ ∃ t, C.τ t = some b
mutual
def RepT (w : World) (ok : Nat → Prop) : (t : Ty) → t.T → List Value → Prop
 | .int k, n, cs => cs = [.int k (i_ n)]
 | .bool, b, cs => cs = [.bool (b_ b)]
 | .str, s, cs => cs = [.string (s_ s)]
 | .sl _ t, xs, cs => ∃ A c, cs = [.slice A (l_ xs).length c] ∧ (l_ xs).length ≤ c ∧ (l_ xs = [] ∨ ∃ b o, A = some ⟨b, o, none⟩ ∧ ok b ∧ ∀ j x, (l_ xs)[j]? = some x → ∃ us, RepT w ok t x us ∧ ∀ i u, us[i]? = some u → w.cell? ⟨b, o + (j * t.sz + i), none⟩ = some u)
 | .st ts, x, cs => RepTs w ok ts x cs
def RepTs (w : World) (ok : Nat → Prop) : (ts : List Ty) → Ty.Ts ts → List Value → Prop
 | [], _, cs => cs = []
 | t :: r, x, cs => ∃ u q, cs = u :: q ∧ isSt t = false ∧ RepT w ok t x.1 [u] ∧ RepTs w ok r x.2 q
end
def RowT (w : World) (okr ok : Nat → Prop) (ty : Ty) (xs : List ty.T) (v : Value) : Prop :=
 ∃ A c, v = .slice A xs.length c ∧ xs.length ≤ c ∧ (xs = [] ∨ ∃ b o, A = some ⟨b, o, none⟩ ∧ okr b ∧ ∀ j x, xs[j]? = some x → ∃ us, RepT w ok ty x us ∧ ∀ i u, us[i]? = some u → w.cell? ⟨b, o + (j * ty.sz + i), none⟩ = some u)
theorem RepT_sl {w : World} {ok : Nat → Prop} {e : TypeId} {t : Ty} {xs : Ty.T (.sl e t)} {cs : List Value} : RepT w ok (.sl e t) xs cs ↔ ∃ v, cs = [v] ∧ RowT w ok ok t (l_ xs) v := by
 constructor
 ·intro h
  rw [RepT] at h
  obtain ⟨A, c, h1, h2, h3⟩ := h
  exact ⟨_, h1, A, c, rfl, h2, h3⟩
 ·rintro ⟨v, rfl, A, c, rfl, h2, h3⟩
  rw [RepT]
  exact ⟨A, c, rfl, h2, h3⟩
mutual
theorem RepT_len {w : World} {ok : Nat → Prop} : ∀ (t : Ty) (x : t.T) (cs : List Value), RepT w ok t x cs → cs.length = t.sz
 | .int k, n, cs, h => by rw [RepT] at h; rw [h]; rfl
 | .bool, n, cs, h => by rw [RepT] at h; rw [h]; rfl
 | .str, n, cs, h => by rw [RepT] at h; rw [h]; rfl
 | .sl e t, n, cs, h => by obtain ⟨v, rfl, _⟩ := RepT_sl.1 h; rfl
 | .st ts, n, cs, h => by rw [RepT] at h; exact RepTs_len ts n cs h
theorem RepTs_len {w : World} {ok : Nat → Prop} : ∀ (ts : List Ty) (x : Ty.Ts ts) (cs : List Value), RepTs w ok ts x cs → cs.length = ts.length
 | [], _, cs, h => by rw [RepTs] at h; rw [h]; rfl
 | t :: r, x, cs, h => by
  rw [RepTs] at h
  obtain ⟨u, q, rfl, h0, h1, h2⟩ := h
  simp [RepTs_len r x.2 q h2]
end
mutual
theorem RepT_one {w : World} {ok : Nat → Prop} : ∀ (t : Ty) (x : t.T) (cs : List Value), RepT w ok t x cs → ∀ u ∈ cs, u.oneCell' = true
 | .int k, n, cs, h => by rw [RepT] at h; rw [h]; intro u hu; rw [List.mem_singleton.1 hu]; rfl
 | .bool, n, cs, h => by rw [RepT] at h; rw [h]; intro u hu; rw [List.mem_singleton.1 hu]; rfl
 | .str, n, cs, h => by rw [RepT] at h; rw [h]; intro u hu; rw [List.mem_singleton.1 hu]; rfl
 | .sl e t, n, cs, h => by obtain ⟨v, rfl, A, c, rfl, _⟩ := RepT_sl.1 h; intro u hu; rw [List.mem_singleton.1 hu]; rfl
 | .st ts, n, cs, h => by rw [RepT] at h; exact RepTs_one ts n cs h
theorem RepTs_one {w : World} {ok : Nat → Prop} : ∀ (ts : List Ty) (x : Ty.Ts ts) (cs : List Value), RepTs w ok ts x cs → ∀ u ∈ cs, u.oneCell' = true
 | [], _, cs, h => by rw [RepTs] at h; rw [h]; intro u hu; cases hu
 | t :: r, x, cs, h => by
  rw [RepTs] at h
  obtain ⟨u, q, rfl, h0, h1, h2⟩ := h
  intro z hz
  rcases List.mem_cons.1 hz with rfl | hz
  ·exact RepT_one t x.1 _ h1 z (List.mem_singleton.2 rfl)
  ·exact RepTs_one r x.2 q h2 z hz
end
mutual
theorem RepT_mono {w w' : World} {ok ok' : Nat → Prop} (ho : ∀ b, ok b → ok' b) (hc : ∀ a : Addr, ok a.block → w'.cell? a = w.cell? a) : ∀ (t : Ty) (x : t.T) (cs : List Value), RepT w ok t x cs → RepT w' ok' t x cs
 | .int k, n, cs, h => by rw [RepT] at h ⊢; exact h
 | .bool, n, cs, h => by rw [RepT] at h ⊢; exact h
 | .str, n, cs, h => by rw [RepT] at h ⊢; exact h
 | .sl e t, xs, cs, h => by
  rw [RepT] at h ⊢
  obtain ⟨A, c, h1, h2, h3⟩ := h
  refine ⟨A, c, h1, h2, h3.imp id ?_⟩
  rintro ⟨b, o, rfl, hb, h4⟩
  refine ⟨b, o, rfl, ho b hb, fun j x hj => ?_⟩
  obtain ⟨us, h5, h6⟩ := h4 j x hj
  exact ⟨us, RepT_mono ho hc t x us h5, fun i u hi => (hc ⟨b, _, none⟩ hb).trans (h6 i u hi)⟩
 | .st ts, n, cs, h => by rw [RepT] at h ⊢; exact RepTs_mono ho hc ts n cs h
theorem RepTs_mono {w w' : World} {ok ok' : Nat → Prop} (ho : ∀ b, ok b → ok' b) (hc : ∀ a : Addr, ok a.block → w'.cell? a = w.cell? a) : ∀ (ts : List Ty) (x : Ty.Ts ts) (cs : List Value), RepTs w ok ts x cs → RepTs w' ok' ts x cs
 | [], _, cs, h => by rw [RepTs] at h ⊢; exact h
 | t :: r, x, cs, h => by
  rw [RepTs] at h ⊢
  obtain ⟨u, q, rfl, h0, h1, h2⟩ := h
  exact ⟨u, q, rfl, h0, RepT_mono ho hc t x.1 _ h1, RepTs_mono ho hc r x.2 q h2⟩
end
theorem RowT_mono {w w' : World} {okr okr' ok ok' : Nat → Prop} {ty : Ty} {xs : List ty.T} {v : Value} (h : RowT w okr ok ty xs v) (hr : ∀ b, okr b → okr' b) (ho : ∀ b, ok b → ok' b)
  (hcr : ∀ a : Addr, okr a.block → w'.cell? a = w.cell? a) (hc : ∀ a : Addr, ok a.block → w'.cell? a = w.cell? a) : RowT w' okr' ok' ty xs v := by
 obtain ⟨A, c, h1, h2, h3⟩ := h
 refine ⟨A, c, h1, h2, h3.imp id ?_⟩
 rintro ⟨b, o, rfl, hb, h4⟩
 refine ⟨b, o, rfl, hr b hb, fun j x hj => ?_⟩
 obtain ⟨us, h5, h6⟩ := h4 j x hj
 exact ⟨us, RepT_mono ho hc ty x us h5, fun i u hi => (hcr ⟨b, _, none⟩ hb).trans (h6 i u hi)⟩
def RepD (w : World) (ok : Nat → Prop) (x : DV) (v : Value) : Prop := ∃ cs, RepT w ok x.t x.x cs ∧ (match isSt x.t with | true => v = .agg cs.toArray | false => cs = [v])
def Fnv (y : Nat → Option GY) : Fn → Array Value → Array Value → Value → Prop
 | .yield m, x, z, v => ∃ g, y m = some g ∧ v = .func (.yield g.l) #[] #[] ∧ x = #[] ∧ z = g.r.tmps
 | f, x, z, v => v = .func f x z
theorem Fnv.of {y : Nat → Option GY} {f : Fn} (h : notY f = true) {x z : Array Value} : Fnv y f x z (.func f x z) := by
 cases f <;> first | rfl | cases h
theorem Fnv.form {y : Nat → Option GY} {f : Fn} {x z : Array Value} {v : Value} (h : Fnv y f x z v) : ∃ g p q, v = .func g p q := by
 cases f
 all_goals first | exact ⟨_, _, _, h⟩ | (obtain ⟨g, _, h, _⟩ := h; exact ⟨_, _, _, h⟩)
theorem Fnv.mono {y y' : Nat → Option GY} (hy : ∀ m g, y m = some g → y' m = some g) {f : Fn} {x z : Array Value} {v : Value} (h : Fnv y f x z v) : Fnv y' f x z v := by
 cases f
 all_goals first | exact h | (obtain ⟨g, h1, h⟩ := h; exact ⟨g, hy _ _ h1, h⟩)
def okTag (C : Ctx) : Nat → Nat → Prop
 | 0 => C.ok
 | t + 1 => fun b => C.τ t = some b
mutual
def RepA (C : Ctx) (w : World) : AV → Value → Prop
 | .d x, v => RepD w C.ok x v
 | .bv t _ ty xs, v => RowT w (okTag C t) C.ok ty xs v
 | .nils, v => v = .slice none 0 0
 | .nilp, v => v = .pointer none
 | .nilf, v => v = .nilFunc
 | .undef, v => v = .tuple #[]
 | .ref id, v => ∃ l, C.m id = some l ∧ ((l.b = none ∧ l.n = 0 ∧ ∃ A, v = .slice A 0 0) ∨ ∃ b c, l.b = some b ∧ v = .slice (some ⟨b, 0, none⟩) l.n c ∧ l.n ≤ c ∧ c ≤ l.cap)
 | .cut id off len, v => ∃ l, C.m id = some l ∧ off + len ≤ l.n ∧ ∃ A c, v = .slice A len c ∧ len ≤ c ∧ ((l.b = none ∧ len = 0 ∧ c = 0) ∨ ∃ b, l.b = some b ∧ off + c ≤ l.cap ∧ (0 < c → A = some ⟨b, off * l.g, none⟩))
 | .ptr id i off, v => ∃ l b, C.m id = some l ∧ l.b = some b ∧ i < l.n ∧ v = .pointer (some ⟨b, i * l.g + off, none⟩)
 | .vptr x off, v => ∃ b o us, v = .pointer (some ⟨b, o + off, none⟩) ∧ C.rd b ∧ RepT w C.ok x.t x.x us ∧ ∀ i u, us[i]? = some u → w.cell? ⟨b, o + i, none⟩ = some u
 | .agg xs, v => ∃ cs : Array Value, v = .agg cs ∧ RepL C w xs cs.toList ∧ ∀ u ∈ cs.toList, u.oneCell' = true
 | .tup xs, v => ∃ cs : Array Value, v = .tuple cs ∧ RepL C w xs cs.toList
 | .fn f a b, v => ∃ x y : Array Value, Fnv C.gh.y f x y v ∧ RepL C w a x.toList ∧ RepL C w b y.toList
 | .nt may yes, v => ∃ t, v = .bool t ∧ (t = yes → may = true)
 | .top, _ => True
def RepL (C : Ctx) (w : World) : List AV → List Value → Prop
 | [], cs => cs = []
 | x :: r, cs => ∃ u q, cs = u :: q ∧ RepA C w x u ∧ RepL C w r q
end
structure Le (C : Ctx) (w : World) (C' : Ctx) (w' : World) : Prop where
 gh : ∀ m g, C.gh.y m = some g → C'.gh.y m = some g
 m : ∀ id l, C.m id = some l → C'.m id = some l
 τ : C'.τ = C.τ
 ok : ∀ b, C.ok b → C'.ok b
 cell : ∀ a : Addr, C.rd a.block → w'.cell? a = w.cell? a
theorem RepD_mono {C C' : Ctx} {w w' : World} (h : Le C w C' w') {x : DV} {v : Value} (hx : RepD w C.ok x v) : RepD w' C'.ok x v := by
 obtain ⟨cs, h1, h2⟩ := hx
 exact ⟨cs, RepT_mono h.ok (fun a ha => h.cell a (.inl ha)) _ _ _ h1, h2⟩
theorem rd_tag {C : Ctx} {t b : Nat} (h : okTag C t b) : C.rd b := by
 cases t with
 | zero => exact .inl h
 | succ t => exact .inr ⟨t, h⟩
theorem RowT_le {C C' : Ctx} {w w' : World} (h : Le C w C' w') {t : Nat} {ty : Ty} {xs : List ty.T} {v : Value} (hx : RowT w (okTag C t) C.ok ty xs v) : RowT w' (okTag C' t) C'.ok ty xs v := by
 refine RowT_mono hx ?_ h.ok (fun a ha => h.cell a (rd_tag ha)) (fun a ha => h.cell a (.inl ha))
 intro b hb
 cases t with
 | zero => exact h.ok b hb
 | succ t => simp only [okTag] at hb ⊢; rw [h.τ]; exact hb
mutual
theorem RepA_mono {C C' : Ctx} {w w' : World} (h : Le C w C' w') : ∀ (x : AV) (v : Value), RepA C w x v → RepA C' w' x v
 | .d x, v, hx => by rw [RepA] at hx ⊢; exact RepD_mono h hx
 | .bv t _ ty xs, v, hx => by rw [RepA] at hx ⊢; exact RowT_le h hx
 | .nils, v, hx => by rw [RepA] at hx ⊢; exact hx
 | .nilp, v, hx => by rw [RepA] at hx ⊢; exact hx
 | .nilf, v, hx => by rw [RepA] at hx ⊢; exact hx
 | .undef, v, hx => by rw [RepA] at hx ⊢; exact hx
 | .ref id, v, hx => by rw [RepA] at hx ⊢; obtain ⟨l, h1, h2⟩ := hx; exact ⟨l, h.m id l h1, h2⟩
 | .cut id off len, v, hx => by rw [RepA] at hx ⊢; obtain ⟨l, h1, h2⟩ := hx; exact ⟨l, h.m id l h1, h2⟩
 | .ptr id i off, v, hx => by rw [RepA] at hx ⊢; obtain ⟨l, b, h1, h2⟩ := hx; exact ⟨l, b, h.m id l h1, h2⟩
 | .vptr x off, v, hx => by
  rw [RepA] at hx ⊢
  obtain ⟨b, o, us, h1, h2, h3, h4⟩ := hx
  refine ⟨b, o, us, h1, h2.imp (h.ok b) (fun ⟨t, ht⟩ => ⟨t, by rw [h.τ]; exact ht⟩), RepT_mono h.ok (fun a ha => h.cell a (.inl ha)) _ _ _ h3, fun i u hi => (h.cell ⟨b, _, none⟩ h2).trans (h4 i u hi)⟩
 | .agg xs, v, hx => by rw [RepA] at hx ⊢; obtain ⟨cs, h1, h2, h3⟩ := hx; exact ⟨cs, h1, RepL_mono h xs _ h2, h3⟩
 | .tup xs, v, hx => by rw [RepA] at hx ⊢; obtain ⟨cs, h1, h2⟩ := hx; exact ⟨cs, h1, RepL_mono h xs _ h2⟩
 | .fn f a b, v, hx => by rw [RepA] at hx ⊢; obtain ⟨x, y, h1, h2, h3⟩ := hx; exact ⟨x, y, h1.mono h.gh, RepL_mono h a _ h2, RepL_mono h b _ h3⟩
 | .nt may yes, v, hx => by rw [RepA] at hx ⊢; exact hx
 | .top, v, hx => by rw [RepA]; trivial
theorem RepL_mono {C C' : Ctx} {w w' : World} (h : Le C w C' w') : ∀ (xs : List AV) (cs : List Value), RepL C w xs cs → RepL C' w' xs cs
 | [], cs, hx => by rw [RepL] at hx ⊢; exact hx
 | x :: r, cs, hx => by
  rw [RepL] at hx ⊢
  obtain ⟨u, q, h1, h2, h3⟩ := hx
  exact ⟨u, q, h1, RepA_mono h x u h2, RepL_mono h r q h3⟩
end
section
variable {C : Ctx} {w : World}
theorem RepL_nil {cs : List Value} : RepL C w [] cs ↔ cs = [] := by rw [RepL]
theorem RepL_cons {x : AV} {r : List AV} {cs : List Value} : RepL C w (x :: r) cs ↔ ∃ u q, cs = u :: q ∧ RepA C w x u ∧ RepL C w r q := by rw [RepL]
theorem RepL_len : ∀ {xs : List AV} {cs : List Value}, RepL C w xs cs → cs.length = xs.length
 | [], cs, h => by rw [RepL_nil] at h; rw [h]; rfl
 | x :: r, cs, h => by obtain ⟨u, q, rfl, _, h2⟩ := RepL_cons.1 h; simp [RepL_len h2]
theorem RepL_get : ∀ {xs : List AV} {cs : List Value}, RepL C w xs cs → ∀ {i : Nat} {x : AV}, xs[i]? = some x → ∃ u, cs[i]? = some u ∧ RepA C w x u
 | [], cs, h, i, x, hi => by simp at hi
 | y :: r, cs, h, i, x, hi => by
  obtain ⟨u, q, rfl, h1, h2⟩ := RepL_cons.1 h
  cases i with
  | zero => simp at hi; subst hi; exact ⟨u, rfl, h1⟩
  | succ i => simp at hi ⊢; exact RepL_get h2 hi
theorem RepL_of : ∀ {xs : List AV} {cs : List Value}, cs.length = xs.length → (∀ (i : Nat) (x : AV) (u : Value), xs[i]? = some x → cs[i]? = some u → RepA C w x u) → RepL C w xs cs
 | [], cs, h, _ => by rw [RepL_nil]; exact List.eq_nil_of_length_eq_zero h
 | x :: r, [], h, _ => by simp at h
 | x :: r, u :: q, h, hg => RepL_cons.2 ⟨u, q, rfl, hg 0 x u rfl rfl, RepL_of (by simpa using h) (fun i y z hi hz => hg (i + 1) y z hi hz)⟩
theorem RepL_append : ∀ {xs ys : List AV} {cs ds : List Value}, RepL C w xs cs → RepL C w ys ds → RepL C w (xs ++ ys) (cs ++ ds)
 | [], ys, cs, ds, h, h2 => by rw [RepL_nil] at h; subst h; exact h2
 | x :: r, ys, cs, ds, h, h2 => by obtain ⟨u, q, rfl, h3, h4⟩ := RepL_cons.1 h; exact RepL_cons.2 ⟨u, q ++ ds, rfl, h3, RepL_append h4 h2⟩
theorem RepL_drop : ∀ (n : Nat) {xs : List AV} {cs : List Value}, RepL C w xs cs → RepL C w (xs.drop n) (cs.drop n)
 | 0, xs, cs, h => h
 | n + 1, [], cs, h => by rw [RepL_nil] at h; subst h; exact RepL_nil.2 rfl
 | n + 1, x :: r, cs, h => by obtain ⟨u, q, rfl, _, h4⟩ := RepL_cons.1 h; exact RepL_drop n h4
theorem RepL_take : ∀ (n : Nat) {xs : List AV} {cs : List Value}, RepL C w xs cs → RepL C w (xs.take n) (cs.take n)
 | 0, xs, cs, h => RepL_nil.2 rfl
 | n + 1, [], cs, h => by rw [RepL_nil] at h; subst h; exact RepL_nil.2 rfl
 | n + 1, x :: r, cs, h => by obtain ⟨u, q, rfl, h3, h4⟩ := RepL_cons.1 h; exact RepL_cons.2 ⟨u, q.take n, rfl, h3, RepL_take n h4⟩
theorem RepL_setCells {xs ys : List AV} {cs ds : List Value} (h : RepL C w xs cs) (h2 : RepL C w ys ds) (off : Nat) : RepL C w (setCells xs off ys) (setCells cs off ds) := by
 unfold setCells
 rw [RepL_len h2]
 exact RepL_append (RepL_append (RepL_take _ h) h2) (RepL_drop _ h)
theorem RepA_d {x : DV} {v : Value} : RepA C w (.d x) v ↔ RepD w C.ok x v := by rw [RepA]
theorem RepL_cellsT : ∀ {ts : List Ty} {x : Ty.Ts ts} {cs : List Value}, RepTs w C.ok ts x cs → RepL C w ((cellsT ts x).map .d) cs
 | [], _, cs, h => by rw [RepTs] at h; exact RepL_nil.2 h
 | t :: r, x, cs, h => by
  rw [RepTs] at h
  obtain ⟨u, q, rfl, h0, h1, h2⟩ := h
  refine RepL_cons.2 ⟨u, q, rfl, ?_, RepL_cellsT h2⟩
  rw [RepA_d]
  exact ⟨[u], h1, by simp [h0]⟩
theorem RepL_cells {x : AV} {v : Value} (ht : isTop x = false) (h : RepA C w x v) : RepL C w (cellsA x) v.cells.toList := by
 unfold cellsA
 split
 ·rw [RepA] at h
  obtain ⟨cs, rfl, h2, _⟩ := h
  exact h2
 ·rename_i y
  rw [RepA_d] at h
  obtain ⟨cs, h1, h2⟩ := h
  obtain ⟨t, x⟩ := y
  cases t with
  | st ts =>
   simp only [isSt] at h2
   subst h2
   rw [RepT] at h1
   exact RepL_cellsT h1
  | _ =>
   all_goals
    simp only [isSt] at h2
    subst h2
    have hv : v.cells = #[v] := by
     have := RepT_one _ _ _ h1 v (List.mem_singleton.2 rfl)
     cases v <;> first | rfl | (simp [Value.oneCell'] at this)
    rw [hv]
    refine RepL_cons.2 ⟨v, [], rfl, ?_, RepL_nil.2 rfl⟩
    rw [RepA_d]
    exact ⟨[v], h1, by simp [isSt]⟩
 ·rename_i h1 h2
  have hv : v.cells = #[v] := by
   cases x <;> first
    | (exact absurd rfl (h1 _))
    | (exact absurd rfl (h2 _))
    | skip
   all_goals rw [RepA] at h
   case bv t e ty xs => obtain ⟨A, c, rfl, _⟩ := h; rfl
   case nils => subst h; rfl
   case nilp => subst h; rfl
   case nilf => subst h; rfl
   case undef => subst h; rfl
   case ref id => obtain ⟨l, _, ⟨_, _, _, rfl⟩ | ⟨b, c, _, rfl, _⟩⟩ := h <;> rfl
   case cut id off len => obtain ⟨l, _, _, A, c, rfl, _⟩ := h; rfl
   case ptr id i off => obtain ⟨l, b, _, _, _, rfl⟩ := h; rfl
   case vptr y off => obtain ⟨b, o, us, rfl, _⟩ := h; rfl
   case tup xs => obtain ⟨cs, rfl, _⟩ := h; rfl
   case fn f a b => obtain ⟨x, y, hf, _⟩ := h; obtain ⟨_, _, _, rfl⟩ := hf.form; rfl
   case nt may yes => obtain ⟨t, rfl, _⟩ := h; rfl
   case top => cases ht
  rw [hv]
  exact RepL_cons.2 ⟨v, [], rfl, h, RepL_nil.2 rfl⟩
end
end AX
namespace AX
def ElAt (C : Ctx) (w : World) : El → Nat → Array Value → Prop
 | .data ty xs, g, cur => ty.sz = g ∧ ∀ (j : Nat) (x : ty.T), xs[j]? = some x → ∃ us, RepT w C.ok ty x us ∧ ∀ (i : Nat) (u : Value), us[i]? = some u → cur[j * g + i]? = some u
 | .mix xs, g, cur => ∀ (j : Nat) (x : AV), xs[j]? = some x → ∃ us, RepL C w (cellsA x) us ∧ us.length = g ∧ (∀ u ∈ us, u.oneCell' = true) ∧ ∀ (i : Nat) (u : Value), us[i]? = some u → cur[j * g + i]? = some u
structure ObjAt (C : Ctx) (w : World) (o : Obj) (l : Loc) : Prop where
 e : o.e = l.e
 g : o.g = l.g
 n : lenO o = l.n
 pos : 0 < l.g
 at_ : (l.b = none ∧ l.n = 0) ∨ ∃ b cur, l.b = some b ∧ w.heap[b]? = some (.cells cur l.e (0, 0)) ∧ l.n ≤ l.cap ∧ l.cap ≤ maxLen ∧ cur.size = l.cap * l.g ∧ ElAt C w o.el l.g cur
def own (C : Ctx) (h : Id → Option Obj) (b : Nat) : Prop := ∃ id o l, h id = some o ∧ C.m id = some l ∧ l.b = some b
structure HSim (C : Ctx) (h : Id → Option Obj) (w : World) : Prop where
 obj : ∀ id o, h id = some o → ∃ l, C.m id = some l ∧ ObjAt C w o l
 inj : ∀ id id' o o' l l' b, h id = some o → h id' = some o' → C.m id = some l → C.m id' = some l' → l.b = some b → l'.b = some b → id = id'
 sep : ∀ id o l b, h id = some o → C.m id = some l → l.b = some b → ¬ C.rd b
 live : ∀ b, C.rd b → b < w.heap.size
structure Ext (C : Ctx) (h : Id → Option Obj) (w : World) (C' : Ctx) (h' : Id → Option Obj) (w' : World) : Prop where
 gh : C'.gh = C.gh
 os : w'.os = w.os
 tape : w'.tape = w.tape
 output : w'.output = w.output
 size : w.heap.size ≤ w'.heap.size
 m : ∀ id l, C.m id = some l → C'.m id = some l
 τ : C'.τ = C.τ
 ok : ∀ b, C.ok b → C'.ok b
 okb : ∀ b, C'.ok b → C.ok b ∨ w.heap.size ≤ b ∨ own C h b
 frame : ∀ b, b < w.heap.size → ¬ own C h b → w'.heap[b]? = w.heap[b]?
 own' : ∀ b, own C' h' b → w.heap.size ≤ b ∨ own C h b
section
variable {C C' C'' : Ctx} {h h' h'' : Id → Option Obj} {w w' w'' : World}
theorem Ext.refl (C : Ctx) (h : Id → Option Obj) (w : World) : Ext C h w C h w :=
 ⟨rfl, rfl, rfl, rfl, Nat.le_refl _, fun _ _ hh => hh, rfl, fun _ hb => hb, fun _ hb => .inl hb, fun _ _ _ => rfl, fun _ hb => .inr hb⟩
theorem Ext.trans (h1 : Ext C h w C' h' w') (h2 : Ext C' h' w' C'' h'' w'') : Ext C h w C'' h'' w'' where
 gh := h2.gh.trans h1.gh
 os := h2.os.trans h1.os
 tape := h2.tape.trans h1.tape
 output := h2.output.trans h1.output
 size := Nat.le_trans h1.size h2.size
 m := fun id l hl => h2.m id l (h1.m id l hl)
 τ := h2.τ.trans h1.τ
 ok := fun b hb => h2.ok b (h1.ok b hb)
 okb := fun b hb => by
  rcases h2.okb b hb with h3 | h3 | h3
  ·exact h1.okb b h3
  ·exact .inr (.inl (Nat.le_trans h1.size h3))
  ·exact .inr (h1.own' b h3)
 frame := fun b hb hn => by
  refine (h2.frame b (Nat.lt_of_lt_of_le hb h1.size) (fun h3 => ?_)).trans (h1.frame b hb hn)
  rcases h1.own' b h3 with h4 | h4
  ·omega
  ·exact hn h4
 own' := fun b hb => by
  rcases h2.own' b hb with h3 | h3
  ·exact .inl (Nat.le_trans h1.size h3)
  ·exact h1.own' b h3
theorem cell_of_block {w w' : World} {a : Addr} (hh : w'.heap[a.block]? = w.heap[a.block]?) : w'.cell? a = w.cell? a := by simp [World.cell?, hh]
theorem HSim.notOwn (hs : HSim C h w) {b : Nat} (hb : C.rd b) : ¬ own C h b := fun ⟨id, o, l, h1, h2, h3⟩ => hs.sep id o l b h1 h2 h3 hb
theorem Ext.le (hs : HSim C h w) (he : Ext C h w C' h' w') : Le C w C' w' :=
 ⟨fun m g h => by rw [he.gh]; exact h, he.m, he.τ, he.ok, fun a ha => cell_of_block (he.frame a.block (hs.live _ ha) (hs.notOwn ha))⟩
theorem ElAt.mono (hl : Le C w C' w') {el : El} {g : Nat} {cur : Array Value} (hh : ElAt C w el g cur) : ElAt C' w' el g cur := by
 cases el with
 | data ty xs =>
  refine ⟨hh.1, fun j x hj => ?_⟩
  obtain ⟨us, h1, h2⟩ := hh.2 j x hj
  exact ⟨us, RepT_mono hl.ok (fun a ha => hl.cell a (.inl ha)) _ _ _ h1, h2⟩
 | mix xs =>
  intro j x hj
  obtain ⟨us, h1, h2⟩ := hh j x hj
  exact ⟨us, RepL_mono hl _ _ h1, h2⟩
theorem ObjAt.mono (hl : Le C w C' w') {o : Obj} {l : Loc} (hh : ObjAt C w o l) (hb : ∀ b, l.b = some b → w'.heap[b]? = w.heap[b]?) : ObjAt C' w' o l := by
 refine ⟨hh.e, hh.g, hh.n, hh.pos, hh.at_.imp id ?_⟩
 rintro ⟨b, cur, h1, h2, h3, h4, h5, h6⟩
 exact ⟨b, cur, h1, (hb b h1).trans h2, h3, h4, h5, h6.mono hl⟩
theorem HSim.same (hs : HSim C h w) (hh : w'.heap = w.heap) : HSim C h w' := by
 have hl : Le C w C w' := ⟨(fun _ _ h => h), fun _ _ hx => hx, rfl, fun _ hb => hb, fun a _ => cell_of_block (by rw [hh])⟩
 exact ⟨fun id o ho => let ⟨l, h1, h2⟩ := hs.obj id o ho; ⟨l, h1, h2.mono hl (fun b _ => by rw [hh])⟩, hs.inj, hs.sep, fun b hb => by rw [hh]; exact hs.live b hb⟩
theorem Ext.same (C : Ctx) (h : Id → Option Obj) (hh : w'.heap = w.heap) (h1 : w'.os = w.os) (h2 : w'.tape = w.tape) (h3 : w'.output = w.output) : Ext C h w C h w' :=
 ⟨rfl, h1, h2, h3, by rw [hh]; exact Nat.le_refl _, fun _ _ hx => hx, rfl, fun _ hb => hb, fun _ hb => .inl hb, fun _ _ _ => by rw [hh], fun _ hb => .inr hb⟩
theorem own_sub (hsub : ∀ id o, h' id = some o → h id = some o) {b : Nat} (hb : own C h' b) : own C h b := let ⟨id, o, l, h1, h2, h3⟩ := hb; ⟨id, o, l, hsub id o h1, h2, h3⟩
theorem HSim.sub (hs : HSim C h w) (hsub : ∀ id o, h' id = some o → h id = some o) : HSim C h' w :=
 ⟨fun id o ho => hs.obj id o (hsub id o ho), fun id id' o o' l l' b h1 h2 => hs.inj id id' o o' l l' b (hsub _ _ h1) (hsub _ _ h2), fun id o l b h1 => hs.sep id o l b (hsub _ _ h1), hs.live⟩
theorem Ext.sub (w : World) (hsub : ∀ id o, h' id = some o → h id = some o) : Ext C h w C h' w :=
 ⟨rfl, rfl, rfl, rfl, Nat.le_refl _, fun _ _ hx => hx, rfl, fun _ hb => hb, fun _ hb => .inl hb, fun _ _ _ => rfl, fun _ hb => .inr (own_sub hsub hb)⟩
def Ctx.free (C : Ctx) (l : Loc) : Ctx := { C with ok := fun b => C.ok b ∨ l.b = some b }
theorem le_free (C : Ctx) (w : World) (l : Loc) (hs : HSim C h w) : Le C w (C.free l) w := ⟨(fun _ _ h => h), fun _ _ hx => hx, rfl, fun _ hb => .inl hb, fun _ _ => rfl⟩
theorem HSim.free (hs : HSim C h w) {id : Id} {o : Obj} {l : Loc} (ho : h id = some o) (hl : C.m id = some l) (hsub : ∀ i o, h' i = some o → h i = some o) (hn : h' id = none) : HSim (C.free l) h' w := by
 obtain ⟨l', h1, h2⟩ := hs.obj id o ho
 obtain rfl : l' = l := Option.some.inj (h1.symm.trans hl)
 have hne : ∀ i o' b, h' i = some o' → l'.b = some b → ∀ l2, C.m i = some l2 → l2.b = some b → False := by
  intro i o' b hi hb l2 hl2 hb2
  have := hs.inj i id o' o l2 l' b (hsub _ _ hi) ho hl2 hl hb2 hb
  subst this
  rw [hn] at hi
  cases hi
 refine ⟨fun i o' hi => ?_, fun i i' o o' l l' b h1 h2 h3 h4 => hs.inj i i' o o' l l' b (hsub _ _ h1) (hsub _ _ h2) h3 h4, fun i o' l2 b hi hl2 hb hrd => ?_, fun b hb => ?_⟩
 ·obtain ⟨l2, h3, h4⟩ := hs.obj i o' (hsub _ _ hi)
  exact ⟨l2, h3, h4.mono (le_free C w l' hs) (fun _ _ => rfl)⟩
 ·rcases hrd with (h3 | h3) | h3
  ·exact hs.sep i o' l2 b (hsub _ _ hi) hl2 hb (.inl h3)
  ·exact hne i o' b hi h3 l2 hl2 hb
  ·exact hs.sep i o' l2 b (hsub _ _ hi) hl2 hb (.inr h3)
 ·rcases hb with (h3 | h3) | h3
  ·exact hs.live b (.inl h3)
  ·rcases h2.at_ with ⟨h4, _⟩ | ⟨b', cur, h4, h5, _⟩
   ·rw [h4] at h3; cases h3
   ·rw [h4] at h3; cases h3; exact (Array.getElem?_eq_some_iff.1 h5).1
  ·exact hs.live b (.inr h3)
theorem Ext.free (hs : HSim C h w) {id : Id} {o : Obj} {l : Loc} (ho : h id = some o) (hl : C.m id = some l) (hsub : ∀ i o, h' i = some o → h i = some o) : Ext C h w (C.free l) h' w :=
 ⟨rfl, rfl, rfl, rfl, Nat.le_refl _, fun _ _ hx => hx, rfl, fun _ hb => .inl hb, fun b hb => hb.imp (fun h3 => h3) (fun h3 => .inr ⟨id, o, l, ho, hl, h3⟩), fun _ _ _ => rfl,
  fun b ⟨i, o', l2, h1, h2, h3⟩ => .inr ⟨i, o', l2, hsub _ _ h1, h2, h3⟩⟩
def Ctx.add (C : Ctx) (me : Id) (l : Loc) : Ctx := { C with m := fun i => match decEq i me with | isTrue _ => some l | isFalse _ => C.m i }
theorem add_m {me : Id} {l : Loc} (hf : C.m me = none) : ∀ id l', C.m id = some l' → (C.add me l).m id = some l' := by
 intro id l' hh
 unfold Ctx.add
 dsimp only
 split
 ·rename_i he _; rw [he, hf] at hh; cases hh
 ·exact hh
theorem add_self (C : Ctx) (me : Id) (l : Loc) : (C.add me l).m me = some l := by
 unfold Ctx.add
 dsimp only
 split
 ·rfl
 ·rename_i hne _; exact absurd rfl hne
theorem add_inv {me id : Id} {l l' : Loc} (hh : (C.add me l).m id = some l') : (id = me ∧ l' = l) ∨ (id ≠ me ∧ C.m id = some l') := by
 unfold Ctx.add at hh
 dsimp only at hh
 split at hh
 ·rename_i he _; exact .inl ⟨he, (Option.some.inj hh).symm⟩
 ·rename_i hne _; exact .inr ⟨hne, hh⟩
theorem Le.new (hs : HSim C h w) {me : Id} (hf : C.m me = none) (l : Loc) {ob : Go.Obj} (hw : w'.heap = w.heap.push ob) : Le C w (C.add me l) w' :=
 ⟨(fun _ _ h => h), add_m hf, rfl, fun _ hb => hb, fun a ha => cell_of_block (by rw [hw]; exact Array.getElem?_push_lt (hs.live _ ha) |>.trans (Array.getElem?_eq_getElem (hs.live _ ha)).symm)⟩
theorem push_old {ob : Go.Obj} (hw : w'.heap = w.heap.push ob) {b : Nat} (hb : b < w.heap.size) : w'.heap[b]? = w.heap[b]? := by
 rw [hw, Array.getElem?_push_lt hb, Array.getElem?_eq_getElem hb]
theorem push_new {ob : Go.Obj} (hw : w'.heap = w.heap.push ob) : w'.heap[w.heap.size]? = some ob := by
 rw [hw]; simp
theorem HSim.new (hs : HSim C h w) {me : Id} (hf : C.m me = none) {o : Obj} {l : Loc} {cur : Array Value} (hlb : l.b = some w.heap.size) (hw : w'.heap = w.heap.push (.cells cur l.e (0, 0)))
  (hh : ∀ i, h' i = some o ∧ i = me ∨ i ≠ me ∧ h' i = h i) (he : o.e = l.e) (hg : o.g = l.g) (hn : lenO o = l.n) (hp : 0 < l.g) (hc : l.n ≤ l.cap) (hm : l.cap ≤ maxLen) (hsz : cur.size = l.cap * l.g) (hel : ElAt C w o.el l.g cur) :
  HSim (C.add me l) h' w' := by
 have hle := Le.new hs hf l hw
 have old : ∀ i o', i ≠ me → h' i = some o' → h i = some o' := by
  intro i o' hi hh'
  rcases hh i with ⟨_, h2⟩ | ⟨_, h2⟩
  ·exact absurd h2 hi
  ·rw [h2] at hh'; exact hh'
 have blt : ∀ i o' l2 b, h i = some o' → C.m i = some l2 → l2.b = some b → b < w.heap.size := by
  intro i o' l2 b h1 h2 h3
  obtain ⟨l3, h4, h5⟩ := hs.obj i o' h1
  obtain rfl : l3 = l2 := Option.some.inj (h4.symm.trans h2)
  rcases h5.at_ with ⟨h6, _⟩ | ⟨b', c', h6, h7, _⟩
  ·rw [h6] at h3; cases h3
  ·rw [h6] at h3; cases h3; exact (Array.getElem?_eq_some_iff.1 h7).1
 refine ⟨fun i o' hi => ?_, fun i i' o1 o2 l1 l2 b h1 h2 h3 h4 h5 h6 => ?_, fun i o' l2 b hi hl2 hb hrd => ?_, fun b hb => ?_⟩
 ·by_cases hme : i = me
  ·subst hme
   have ho : o' = o := by
    rcases hh i with ⟨h1, _⟩ | ⟨h1, _⟩
    ·exact Option.some.inj (hi.symm.trans h1)
    ·exact absurd rfl h1
   subst ho
   exact ⟨l, add_self C i l, ⟨he, hg, hn, hp, .inr ⟨_, cur, hlb, push_new hw, hc, hm, hsz, hel.mono hle⟩⟩⟩
  ·obtain ⟨l2, h1, h2⟩ := hs.obj i o' (old i o' hme hi)
   exact ⟨l2, add_m hf _ _ h1, h2.mono hle (fun b hb => push_old hw (blt i o' l2 b (old i o' hme hi) h1 hb))⟩
 ·rcases add_inv h3 with ⟨e1, rfl⟩ | ⟨n1, m1⟩
  ·rcases add_inv h4 with ⟨e2, rfl⟩ | ⟨n2, m2⟩
   ·rw [e1, e2]
   ·have := blt i' o2 l2 b (old _ _ n2 h2) m2 h6
    rw [hlb] at h5; cases h5; omega
  ·rcases add_inv h4 with ⟨e2, rfl⟩ | ⟨n2, m2⟩
   ·have := blt i o1 l1 b (old _ _ n1 h1) m1 h5
    rw [hlb] at h6; cases h6; omega
   ·exact hs.inj i i' o1 o2 l1 l2 b (old _ _ n1 h1) (old _ _ n2 h2) m1 m2 h5 h6
 ·have hb2 : b < w.heap.size := hs.live b hrd
  rcases add_inv hl2 with ⟨e1, rfl⟩ | ⟨n1, m1⟩
  ·rw [hlb] at hb; cases hb; omega
  ·exact hs.sep i o' l2 b (old _ _ n1 hi) m1 hb hrd
 ·have := hs.live b hb
  rw [hw, Array.size_push]
  omega
theorem Ext.new (hs : HSim C h w) {me : Id} (hf : C.m me = none) {o : Obj} {l : Loc} {ob : Go.Obj} (hlb : l.b = some w.heap.size) (hw : w'.heap = w.heap.push ob) (h1 : w'.os = w.os) (h2 : w'.tape = w.tape) (h3 : w'.output = w.output)
  (hh : ∀ i, h' i = some o ∧ i = me ∨ i ≠ me ∧ h' i = h i) : Ext C h w (C.add me l) h' w' where
 gh := rfl
 os := h1
 tape := h2
 output := h3
 size := by rw [hw, Array.size_push]; omega
 m := add_m hf
 τ := rfl
 ok := fun _ hb => hb
 okb := fun _ hb => .inl hb
 frame := fun b hb _ => push_old hw hb
 own' := fun b ⟨i, o', l2, h4, h5, h6⟩ => by
  rcases add_inv h5 with ⟨e1, rfl⟩ | ⟨n1, m1⟩
  ·rw [hlb] at h6; cases h6; exact .inl (Nat.le_refl _)
  ·rcases hh i with ⟨_, e⟩ | ⟨_, e⟩
   ·exact absurd e n1
   ·rw [e] at h4; exact .inr ⟨i, o', l2, h4, m1, h6⟩
theorem HSim.upd (hs : HSim C h w) {id : Id} {o o' : Obj} {l : Loc} {b : Nat} {cur : Array Value} (ho : h id = some o) (hl : C.m id = some l) (hb : l.b = some b) (hsz : w'.heap.size = w.heap.size) (hbk : w'.heap[b]? = some (.cells cur l.e (0, 0))) (hot : ∀ k, k ≠ b → w'.heap[k]? = w.heap[k]?)
  (hh : ∀ i, h' i = some o' ∧ i = id ∨ i ≠ id ∧ h' i = h i) (he : o'.e = l.e) (hg : o'.g = l.g) (hn : lenO o' = l.n) (hcs : cur.size = l.cap * l.g) (hel : ElAt C w o'.el l.g cur) : HSim C h' w' := by
 have hnrd : ¬ C.rd b := hs.sep id o l b ho hl hb
 have hle : Le C w C w' := ⟨(fun _ _ h => h), fun _ _ hx => hx, rfl, fun _ hx => hx, fun a ha => cell_of_block (hot _ (fun e => hnrd (e ▸ ha)))⟩
 obtain ⟨l0, hl0, hat⟩ := hs.obj id o ho
 obtain rfl : l0 = l := Option.some.inj (hl0.symm.trans hl)
 have get : ∀ i x, h' i = some x → ∃ y, h i = some y := by
  intro i x hx
  rcases hh i with ⟨_, e⟩ | ⟨_, e⟩
  ·exact ⟨o, e ▸ ho⟩
  ·exact ⟨x, e ▸ hx⟩
 refine ⟨fun i x hx => ?_, fun i i' o1 o2 l1 l2 b' h1 h2 => ?_, fun i x l2 b' hx hl2 => ?_, fun k hk => by rw [hsz]; exact hs.live k hk⟩
 ·by_cases hi : i = id
  ·subst hi
   have : x = o' := by
    rcases hh i with ⟨h1, _⟩ | ⟨h1, _⟩
    ·exact Option.some.inj (hx.symm.trans h1)
    ·exact absurd rfl h1
   subst this
   refine ⟨l0, hl, ⟨he, hg, hn, hat.pos, ?_⟩⟩
   rcases hat.at_ with ⟨h1, _⟩ | ⟨b2, c2, h1, h2, h3, h4, h5, h6⟩
   ·rw [h1] at hb; cases hb
   ·rw [h1] at hb; cases hb
    exact .inr ⟨_, cur, h1, hbk, h3, h4, hcs, hel.mono hle⟩
  ·rcases hh i with ⟨_, e⟩ | ⟨_, e⟩
   ·exact absurd e hi
   ·rw [e] at hx
    obtain ⟨l2, h1, h2⟩ := hs.obj i x hx
    exact ⟨l2, h1, h2.mono hle (fun k hk => hot k (fun e2 => hi (hs.inj i id x o l2 l0 k hx ho h1 hl hk (e2 ▸ hb))))⟩
 ·obtain ⟨y1, hy1⟩ := get _ _ h1
  obtain ⟨y2, hy2⟩ := get _ _ h2
  exact hs.inj i i' y1 y2 l1 l2 b' hy1 hy2
 ·obtain ⟨y, hy⟩ := get _ _ hx
  exact hs.sep i y l2 b' hy hl2
theorem Ext.upd {id : Id} {o o' : Obj} {l : Loc} {b : Nat} (ho : h id = some o) (hl : C.m id = some l) (hb : l.b = some b) (hsz : w'.heap.size = w.heap.size) (hot : ∀ k, k ≠ b → w'.heap[k]? = w.heap[k]?)
  (h1 : w'.os = w.os) (h2 : w'.tape = w.tape) (h3 : w'.output = w.output) (hh : ∀ i, h' i = some o' ∧ i = id ∨ i ≠ id ∧ h' i = h i) : Ext C h w C h' w' where
 gh := rfl
 os := h1
 tape := h2
 output := h3
 size := by rw [hsz]; exact Nat.le_refl _
 m := fun _ _ hx => hx
 τ := rfl
 ok := fun _ hx => hx
 okb := fun _ hx => .inl hx
 frame := fun k _ hk => hot k (fun e => hk (e ▸ ⟨id, o, l, ho, hl, hb⟩))
 own' := fun k ⟨i, x, l2, h4, h5, h6⟩ => by
  rcases hh i with ⟨_, e⟩ | ⟨_, e⟩
  ·subst e; exact .inr ⟨i, o, l2, ho, h5, h6⟩
  ·rw [e] at h4; exact .inr ⟨i, x, l2, h4, h5, h6⟩
end
theorem hget_hdel (h : Heap) (id i : Id) : hget (hdel h id) i = if i = id then none else hget h i := by
 induction h with
 | nil => simp [hdel, hget]
 | cons p r ih =>
  obtain ⟨j, o⟩ := p
  rw [hdel]
  split
  ·rename_i hj _
   rw [ih]
   by_cases hi : i = id
   ·simp [hi]
   ·simp only [hi, if_false]
    rw [hget]
    split
    ·rename_i hji _; exact absurd (hji.symm.trans hj) hi
    ·rfl
  ·rename_i hj _
   rw [hget, hget]
   split
   ·rename_i hji _
    simp [← hji, hj]
   ·rename_i hji _; exact ih
theorem hget_hset (h : Heap) (id : Id) (o : Obj) (i : Id) : hget (hset h id o) i = if i = id then some o else hget h i := by
 induction h with
 | nil =>
  simp only [hset, hget]
  split
  ·rename_i hj _; simp [hj.symm]
  ·rename_i hj _
   have hne : ¬ i = id := fun e => hj e.symm
   simp [hne]
 | cons p r ih =>
  obtain ⟨j, q⟩ := p
  rw [hset]
  split
  ·rename_i hj _
   rw [hget]
   split
   ·rename_i hji _; simp [hji.symm]
   ·rename_i hji _
    have hne : i ≠ id := fun e => hji e.symm
    simp only [hne, if_false]
    rw [hget]
    split
    ·rename_i hji2 _; exact absurd (hji2.symm.trans hj) hne
    ·rfl
  ·rename_i hj _
   have e1 : hget ((j, q) :: hset r id o) i = if j = i then some q else hget (hset r id o) i := by
    rw [hget]; split <;> rename_i h1 _ <;> simp [h1]
   have e2 : hget ((j, q) :: r) i = if j = i then some q else hget r i := by
    rw [hget]; split <;> rename_i h1 _ <;> simp [h1]
   rw [e1, e2, ih]
   by_cases h1 : j = i
   ·have hne : i ≠ id := fun e => hj (h1.trans e)
    simp [h1, hne]
   ·simp [h1]
theorem hget_hdels : ∀ (l : List Id) (h : Heap) (i : Id), hget (hdels h l) i = if i ∈ l then none else hget h i
 | [], h, i => by simp [hdels]
 | j :: r, h, i => by
  rw [hdels, hget_hdels r, hget_hdel]
  by_cases h1 : i ∈ r
  ·simp [h1]
  ·by_cases h2 : i = j <;> simp [h1, h2]
end AX
namespace AX
section
variable {P : Program} {C : Ctx} {w : World}
theorem RepA_int {k : IntKind} {n : Ty.T (.int k)} {v : Value} : RepA C w (.d ⟨.int k, n⟩) v ↔ v = .int k (i_ n) := by
 rw [RepA_d]
 constructor
 ·rintro ⟨cs, h1, h2⟩
  rw [RepT] at h1
  simp only [isSt] at h2
  rw [h1] at h2
  exact (List.cons.inj h2).1.symm
 ·rintro rfl
  exact ⟨[.int k (i_ n)], by rw [RepT], rfl⟩
theorem RepA_bool {n : Ty.T .bool} {v : Value} : RepA C w (.d ⟨.bool, n⟩) v ↔ v = .bool (b_ n) := by
 rw [RepA_d]
 constructor
 ·rintro ⟨cs, h1, h2⟩
  rw [RepT] at h1
  simp only [isSt] at h2
  rw [h1] at h2
  exact (List.cons.inj h2).1.symm
 ·rintro rfl
  exact ⟨[.bool (b_ n)], by rw [RepT], rfl⟩
theorem RepA_str {n : Ty.T .str} {v : Value} : RepA C w (.d ⟨.str, n⟩) v ↔ v = .string (s_ n) := by
 rw [RepA_d]
 constructor
 ·rintro ⟨cs, h1, h2⟩
  rw [RepT] at h1
  simp only [isSt] at h2
  rw [h1] at h2
  exact (List.cons.inj h2).1.symm
 ·rintro rfl
  exact ⟨[.string (s_ n)], by rw [RepT], rfl⟩
theorem RepA_sl {e : TypeId} {t : Ty} {n : Ty.T (.sl e t)} {v : Value} : RepA C w (.d ⟨.sl e t, n⟩) v ↔ RowT w C.ok C.ok t (l_ n) v := by
 rw [RepA_d]
 constructor
 ·rintro ⟨cs, h1, h2⟩
  obtain ⟨u, rfl, h3⟩ := RepT_sl.1 h1
  simp only [isSt] at h2
  obtain rfl := (List.cons.inj h2).1
  exact h3
 ·intro h
  exact ⟨[v], RepT_sl.2 ⟨v, rfl, h⟩, rfl⟩
theorem RepA_st {ts : List Ty} {n : Ty.T (.st ts)} {v : Value} : RepA C w (.d ⟨.st ts, n⟩) v ↔ ∃ cs, v = .agg cs ∧ RepTs w C.ok ts n cs.toList := by
 rw [RepA_d]
 constructor
 ·rintro ⟨cs, h1, h2⟩
  rw [RepT] at h1
  simp only [isSt] at h2
  exact ⟨_, h2, by simpa using h1⟩
 ·rintro ⟨cs, rfl, h⟩
  exact ⟨cs.toList, by rw [RepT]; exact h, by simp [isSt]⟩
theorem RepA_vi {k : IntKind} {n : Int} : RepA C w (vi k n) (.int k n) := RepA_int.2 rfl
theorem RepA_vb {b : Bool} : RepA C w (vb b) (.bool b) := RepA_bool.2 rfl
theorem RepA_vs {s : ByteArray} : RepA C w (vs s) (.string s) := RepA_str.2 rfl
theorem RepA_nils {v : Value} : RepA C w .nils v ↔ v = .slice none 0 0 := by rw [RepA]
theorem RepA_nilp {v : Value} : RepA C w .nilp v ↔ v = .pointer none := by rw [RepA]
theorem RepA_nilf {v : Value} : RepA C w .nilf v ↔ v = .nilFunc := by rw [RepA]
theorem RepA_undef {v : Value} : RepA C w .undef v ↔ v = .tuple #[] := by rw [RepA]
theorem RepA_bv {t : Nat} {e : TypeId} {ty : Ty} {xs : List ty.T} {v : Value} : RepA C w (.bv t e ty xs) v ↔ RowT w (okTag C t) C.ok ty xs v := by rw [RepA]
theorem RepA_nt {may yes : Bool} {v : Value} : RepA C w (.nt may yes) v ↔ ∃ t, v = .bool t ∧ (t = yes → may = true) := by rw [RepA]
theorem RepA_ref {id : Id} {v : Value} : RepA C w (.ref id) v ↔ ∃ l, C.m id = some l ∧ ((l.b = none ∧ l.n = 0 ∧ ∃ A, v = .slice A 0 0) ∨ ∃ b c, l.b = some b ∧ v = .slice (some ⟨b, 0, none⟩) l.n c ∧ l.n ≤ c ∧ c ≤ l.cap) := by rw [RepA]
theorem RepA_ptr {id : Id} {i off : Nat} {v : Value} : RepA C w (.ptr id i off) v ↔ ∃ l b, C.m id = some l ∧ l.b = some b ∧ i < l.n ∧ v = .pointer (some ⟨b, i * l.g + off, none⟩) := by rw [RepA]
theorem RepA_agg {xs : List AV} {v : Value} : RepA C w (.agg xs) v ↔ ∃ cs : Array Value, v = .agg cs ∧ RepL C w xs cs.toList ∧ ∀ u ∈ cs.toList, u.oneCell' = true := by rw [RepA]
theorem RepA_tup {xs : List AV} {v : Value} : RepA C w (.tup xs) v ↔ ∃ cs : Array Value, v = .tuple cs ∧ RepL C w xs cs.toList := by rw [RepA]
theorem RepA_fn {f : Fn} {a b : List AV} {v : Value} : RepA C w (.fn f a b) v ↔ ∃ x y : Array Value, Fnv C.gh.y f x y v ∧ RepL C w a x.toList ∧ RepL C w b y.toList := by rw [RepA]
theorem RepA_top {v : Value} : RepA C w .top v := by rw [RepA]; trivial
theorem ofV_rep (x : Value) : RepA C w (ofV x) x := by
 unfold ofV
 split
 ·exact RepA_vi
 ·exact RepA_vb
 ·exact RepA_vs
 ·exact RepA_nils.2 rfl
 ·exact RepA_nilp.2 rfl
 ·exact RepA_nilf.2 rfl
 ·rename_i f a b
  split
  ·rename_i h1 h2 h3
   refine RepA_fn.2 ⟨a, b, Fnv.of h3, ?_, ?_⟩
   ·rw [h1]; exact RepL_nil.2 rfl
   ·rw [h2]; exact RepL_nil.2 rfl
  ·exact RepA_top
 ·rename_i a
  split
  ·rename_i h1
   refine RepA_undef.2 ?_
   congr 1
   exact Array.toList_inj.1 (by rw [h1])
  ·exact RepA_top
 ·exact RepA_top
def Slots (C : Ctx) (w : World) (sl : List AV) (a : Act) : Prop := a.tmps.size = sl.length ∧ ∀ (t : Nat) (x : AV) (v : Value), sl[t]? = some x → a.tmps[t]? = some v → RepA C w x v
theorem Slots.get {sl : List AV} {a : Act} (h : Slots C w sl a) (t : Nat) : RepA C w (sl.getD t .undef) (a.tmps.getD t undef) := by
 by_cases ht : t < sl.length
 ·have h1 : sl[t]? = some sl[t] := List.getElem?_eq_getElem ht
  have h2 : a.tmps[t]? = some (a.tmps[t]'(by rw [h.1]; exact ht)) := Array.getElem?_eq_getElem _
  rw [List.getD_eq_getElem?_getD, h1, Array.getD_eq_getD_getElem?, h2]
  exact h.2 t _ _ h1 h2
 ·rw [List.getD_eq_getElem?_getD, List.getElem?_eq_none (by omega), Array.getD_eq_getD_getElem?, Array.getElem?_eq_none (by rw [h.1]; omega)]
  exact RepA_undef.2 rfl
theorem Slots.eval {sl : List AV} {a : Act} (h : Slots C w sl a) (x : Operand) : RepA C w (evalA sl x) (a.eval x) := by
 cases x with
 | tmp t => exact h.get t
 | const v => exact ofV_rep v
 | global g => exact RepA_top
 | func f => exact RepA_fn.2 ⟨#[], #[], rfl, RepL_nil.2 rfl, RepL_nil.2 rfl⟩
theorem Slots.mono {C' : Ctx} {w' : World} {sl : List AV} {a : Act} (hl : Le C w C' w') (h : Slots C w sl a) : Slots C' w' sl a := ⟨h.1, fun t x v h1 h2 => RepA_mono hl _ _ (h.2 t x v h1 h2)⟩
theorem Slots.put {sl : List AV} {a : Act} (h : Slots C w sl a) (d : Nat) {x : AV} {v : Value} (hx : RepA C w x v) : Slots C w (sl.set d x) (a.put (some d) v) := by
 refine ⟨by simp [Act.put, h.1], fun t y u hy hu => ?_⟩
 simp only [Act.put] at hu
 rw [List.getElem?_set] at hy
 rw [Array.getElem?_setIfInBounds] at hu
 by_cases hd : d = t
 ·subst hd
  rw [if_pos rfl] at hy hu
  split at hy <;> split at hu <;> first
   | (cases hy; done)
   | (cases hu; done)
   | (cases hy; cases hu; exact hx)
 ·rw [if_neg hd] at hy hu
  exact h.2 t y u hy hu
theorem binOp_int {op : BinOp} (t : TypeId) (x y : Operand) {k : IntKind} {a b : Int} {u : Value} (h : (match op with
   | .add | .sub | .mul => Op.intArith op k a b
   | .quo | .rem => Op.intDiv op k a b
   | .and | .or | .xor | .andNot => Op.intBits op k a b
   | _ => Op.intCmp op a b).run P w = .ok u w) (h1 : op ≠ .shl) (h2 : op ≠ .shr) :
  (do eqGuard op t x y (.int k a) (.int k b); binOp op t (.int k a) (.int k b)).run P w = .ok u w := by
 have hg : (eqGuard op t x y (.int k a) (.int k b)).run P w = .ok () w := by
  unfold eqGuard
  cases op <;> rfl
 rw [Sem.run_bind, hg, Result.andThen_ok]
 cases op <;> first
  | (exact absurd rfl h1)
  | (exact absurd rfl h2)
  | (simp only [binOp, ne_eq, not_true_eq_false, if_false]; exact h)
theorem binInt_ok {op : BinOp} {k : IntKind} {a b : Int} {z : AV} (h : binInt op k a b = some z) (t : TypeId) (x y : Operand) :
  ∃ v, (do eqGuard op t x y (.int k a) (.int k b); binOp op t (.int k a) (.int k b)).run P w = .ok v w ∧ RepA C w z v := by
 cases op <;> simp only [binInt, Option.some.injEq, reduceCtorEq] at h <;> subst h <;>
  first
  | exact ⟨_, binOp_int t x y rfl (by decide) (by decide), RepA_vi⟩
  | exact ⟨_, binOp_int t x y rfl (by decide) (by decide), RepA_vb⟩
theorem div_ok {op : BinOp} {k : IntKind} {a b : Int} (hb : b ≠ 0) (t : TypeId) (x y : Operand) (ho : op = .quo ∨ op = .rem) :
  (do eqGuard op t x y (.int k a) (.int k b); binOp op t (.int k a) (.int k b)).run P w = .ok (.int k (match op with | .quo => k.wrap (a.tdiv b) | _ => a.tmod b)) w := by
 rcases ho with rfl | rfl
 ·exact binOp_int t x y (by simp [Op.intDiv, hb]) (by decide) (by decide)
 ·exact binOp_int t x y (by simp [Op.intDiv, hb]) (by decide) (by decide)
theorem shift_ok {op : BinOp} {k kb : IntKind} {a b : Int} (hb : 0 ≤ b) (t : TypeId) (x y : Operand) (ho : op = .shl ∨ op = .shr) :
  (do eqGuard op t x y (.int k a) (.int kb b); binOp op t (.int k a) (.int kb b)).run P w = .ok (.int k (match op with | .shl => k.wrap (a * 2 ^ (min b.toNat k.bits)) | _ => a.fdiv (2 ^ (min b.toNat k.bits)))) w := by
 have hn : ¬ b < 0 := by omega
 have hg : (eqGuard op t x y (.int k a) (.int kb b)).run P w = .ok () w := by
  unfold eqGuard
  rcases ho with rfl | rfl <;> rfl
 rw [Sem.run_bind, hg, Result.andThen_ok]
 rcases ho with rfl | rfl
 ·simp only [binOp, Op.shift, if_neg hn]; rfl
 ·simp only [binOp, Op.shift, if_neg hn]; rfl
theorem str_guard (op : BinOp) (t : TypeId) (x y : Operand) (a b : ByteArray) : (eqGuard op t x y (.string a) (.string b)).run P w = .ok () w := by
 unfold eqGuard
 cases op <;> rfl
theorem binStr_ok {op : BinOp} {a b : ByteArray} {z : AV} (h : binStr op a b = some z) (t : TypeId) (x y : Operand) :
  ∃ v, (do eqGuard op t x y (.string a) (.string b); binOp op t (.string a) (.string b)).run P w = .ok v w ∧ RepA C w z v := by
 cases op <;> simp only [binStr, Option.some.injEq, reduceCtorEq] at h <;> subst h <;>
  exact ⟨_, by rw [Sem.run_bind, str_guard, Result.andThen_ok]; rfl, RepA_vb⟩
theorem addStr_ok {a b : ByteArray} (h : a.size + b.size ≤ 9223372036854775807) (t : TypeId) (x y : Operand) :
  (do eqGuard .add t x y (.string a) (.string b); binOp .add t (.string a) (.string b)).run P w = .ok (.string (a ++ b)) w := by
 rw [Sem.run_bind, str_guard, Result.andThen_ok]
 have hn : ¬ (((a.size + b.size : Nat) : Int) > IntKind.i64.max) := by
  have : IntKind.i64.max = 9223372036854775807 := by decide
  rw [this]
  omega
 simp only [binOp, Op.stringOp, if_neg hn]
 rfl
def asV (P : Program) (t : TypeId) (cs : List Value) : Value := match P.underlying t with
 | some (.struct _) => .agg cs.toArray
 | some (.array _ _) => .agg cs.toArray
 | _ => cs.headD undef
theorem run_isAgg {t : TypeId} {d : TypeDesc} (hu : P.underlying t = some d) : (isAgg t).run P w = .ok (match d with | .struct _ | .array _ _ => true | _ => false) w := by
 unfold isAgg
 rw [Sem.run_bind, run_underlying hu w, Result.andThen_ok]
 cases d <;> rfl
theorem run_sizeOf {t : TypeId} {n : Nat} (h : sizeOf? P t = some n) : (sizeOf t).run P w = .ok n w := by
 unfold sizeOf? at h
 cases hi : P.info? t with
 | none => rw [hi] at h; cases h
 | some i =>
  rw [hi] at h
  simp only [Option.some.injEq] at h
  simp [sizeOf, typeInfo, hi, h]
theorem part_ok {t : TypeId} {n off : Nat} {d : TypeDesc} {cs : List Value} (hu : P.underlying t = some d) (hn : sizeOf? P t = some n) (hl : off + n ≤ cs.length) (h1 : (∀ fs, d ≠ .struct fs) → 0 < n) :
  (part t cs.toArray off).run P w = .ok (asV P t ((cs.drop off).take n)) w := by
 have ext : (cs.toArray.extract off (off + n)) = ((cs.drop off).take n).toArray := by
  apply Array.toList_inj.1
  simp [List.drop_take, Nat.add_sub_cancel_left]
 unfold part
 rw [Sem.run_bind, run_isAgg hu, Result.andThen_ok]
 unfold asV
 simp only [hu]
 cases d <;> first
  | (simp only [if_true, Sem.run_bind, run_sizeOf hn, Result.andThen_ok, ext]; rfl)
  | (have h0 : 0 < n := h1 (fun fs h => by cases h); have hget : cs.toArray[off]? = some (cs[off]'(by omega)) := (by simp); simp only [Bool.false_eq_true, if_false, hget, Sem.run_pure]; congr 1; obtain ⟨m, rfl⟩ : ∃ m, n = m + 1 := ⟨n - 1, by omega⟩; rw [List.drop_eq_getElem_cons (show off < cs.length by omega)]; rfl)
theorem eqInt_ok {xs ys : List DV} {r : Bool} (h : eqInt xs ys = some r) {cs ds : List Value} (hx : RepL C w (xs.map .d) cs) (hy : RepL C w (ys.map .d) ds) : ∃ k a b, cs = [.int k a] ∧ ds = [.int k b] ∧ r = (a == b) := by
 unfold eqInt at h
 split at h
 ·rename_i k a l b
  split at h
  ·rename_i he _
   subst he
   obtain ⟨u, q, rfl, h1, h2⟩ := RepL_cons.1 hx
   obtain ⟨v, q2, rfl, h3, h4⟩ := RepL_cons.1 hy
   obtain rfl := RepL_nil.1 h2
   obtain rfl := RepL_nil.1 h4
   obtain rfl := RepA_int.1 h1
   obtain rfl := RepA_int.1 h3
   exact ⟨_, _, _, rfl, rfl, (Option.some.inj h).symm⟩
  ·cases h
 ·cases h
theorem eqBool_ok {xs ys : List DV} {r : Bool} (h : eqBool xs ys = some r) {cs ds : List Value} (hx : RepL C w (xs.map .d) cs) (hy : RepL C w (ys.map .d) ds) : ∃ a b, cs = [.bool a] ∧ ds = [.bool b] ∧ r = (a == b) := by
 unfold eqBool at h
 split at h
 ·rename_i a b
  obtain ⟨u, q, rfl, h1, h2⟩ := RepL_cons.1 hx
  obtain ⟨v, q2, rfl, h3, h4⟩ := RepL_cons.1 hy
  obtain rfl := RepL_nil.1 h2
  obtain rfl := RepL_nil.1 h4
  obtain rfl := RepA_bool.1 h1
  obtain rfl := RepA_bool.1 h3
  exact ⟨_, _, rfl, rfl, (Option.some.inj h).symm⟩
 ·cases h
theorem eqStr_ok {xs ys : List DV} {r : Bool} (h : eqStr xs ys = some r) {cs ds : List Value} (hx : RepL C w (xs.map .d) cs) (hy : RepL C w (ys.map .d) ds) : ∃ a b, cs = [.string a] ∧ ds = [.string b] ∧ r = (a == b) := by
 unfold eqStr at h
 split at h
 ·rename_i a b
  obtain ⟨u, q, rfl, h1, h2⟩ := RepL_cons.1 hx
  obtain ⟨v, q2, rfl, h3, h4⟩ := RepL_cons.1 hy
  obtain rfl := RepL_nil.1 h2
  obtain rfl := RepL_nil.1 h4
  obtain rfl := RepA_str.1 h1
  obtain rfl := RepA_str.1 h3
  exact ⟨_, _, rfl, rfl, (Option.some.inj h).symm⟩
 ·cases h
theorem eqV_pos {n : Nat} {t : TypeId} {xs ys : List DV} {r : Bool} (h : eqV P n t xs ys = some r) : ∃ d, P.underlying t = some d ∧ ((∀ fs, d ≠ .struct fs) → xs.length = 1) := by
 cases n with
 | zero => cases h
 | succ n =>
  rw [eqV] at h
  split at h
  ·rename_i hu; refine ⟨_, hu, fun _ => ?_⟩; unfold eqInt at h; split at h <;> first | rfl | cases h
  ·rename_i hu; refine ⟨_, hu, fun _ => ?_⟩; unfold eqBool at h; split at h <;> first | rfl | cases h
  ·rename_i hu; refine ⟨_, hu, fun _ => ?_⟩; unfold eqStr at h; split at h <;> first | rfl | cases h
  ·rename_i hu; exact ⟨_, hu, fun hh => absurd rfl (hh _)⟩
  ·cases h
theorem eqFs_ok {m : Nat} (ih : ∀ (t : TypeId) (xs ys : List DV) (r : Bool), eqV P m t xs ys = some r → ∀ cs ds, RepL C w (xs.map .d) cs → RepL C w (ys.map .d) ds → (Op.equalIn m t (asV P t cs) (asV P t ds)).run P w = .ok r w) :
  ∀ (fs : List Field) (xs ys : List DV) (r : Bool), eqFs P (eqV P m) fs xs ys = some r → ∀ cs ds, RepL C w (xs.map .d) cs → RepL C w (ys.map .d) ds → (Op.eqFields m cs.toArray ds.toArray fs).run P w = .ok r w
 | [], xs, ys, r, h, cs, ds, _, _ => by
  rw [eqFs] at h
  cases h
  simp [Op.eqFields]
 | f :: fs, xs, ys, r, h, cs, ds, hx, hy => by
  rw [eqFs] at h
  split at h
  ·rename_i hn n _ hsz
   split at h
   ·rename_i a b hl ha hb
    cases h
    simp only [Bool.and_eq_true, Nat.ble_eq] at hl
    have lx : cs.length = xs.length := by have := RepL_len hx; simpa using this
    have ly : ds.length = ys.length := by have := RepL_len hy; simpa using this
    obtain ⟨d, hd, hp⟩ := eqV_pos ha
    have h0 : (∀ fs, d ≠ .struct fs) → 0 < n := fun hh => by
     have := hp hh
     simp only [List.length_take, List.length_drop] at this
     omega
    have p1 := part_ok (w := w) (cs := cs) (off := f.offset) hd hsz (by omega) h0
    have p2 := part_ok (w := w) (cs := ds) (off := f.offset) hd hsz (by omega) h0
    have hx2 : RepL C w (((xs.drop f.offset).take n).map .d) ((cs.drop f.offset).take n) := by
     have := RepL_take n (RepL_drop f.offset hx)
     simpa [List.map_drop, List.map_take] using this
    have hy2 : RepL C w (((ys.drop f.offset).take n).map .d) ((ds.drop f.offset).take n) := by
     have := RepL_take n (RepL_drop f.offset hy)
     simpa [List.map_drop, List.map_take] using this
    have e := ih _ _ _ _ ha _ _ hx2 hy2
    have er := eqFs_ok ih fs xs ys b hb cs ds hx hy
    have hn' : f.name ≠ "_" := hn
    rw [Op.eqFields]
    simp only [if_pos hn', Sem.run_bind, p1, p2, e, Result.andThen_ok]
    cases a
    ·simp
    ·simpa using er
   ·cases h
  ·cases h
theorem eqV_ok : ∀ (n : Nat) (t : TypeId) (xs ys : List DV) (r : Bool), eqV P n t xs ys = some r → ∀ cs ds, RepL C w (xs.map .d) cs → RepL C w (ys.map .d) ds →
  (Op.equalIn n t (asV P t cs) (asV P t ds)).run P w = .ok r w
 | 0, _, _, _, _, h, _, _, _, _ => by cases h
 | n + 1, t, xs, ys, r, h, cs, ds, hx, hy => by
  rw [eqV] at h
  split at h
  ·rename_i k hu
   obtain ⟨k2, a, b, rfl, rfl, rfl⟩ := eqInt_ok h hx hy
   simp only [asV, hu, List.headD_cons]
   exact run_equalIn_int w n t _ _ a b hu
  ·rename_i hu
   obtain ⟨a, b, rfl, rfl, rfl⟩ := eqBool_ok h hx hy
   simp only [asV, hu, List.headD_cons]
   exact run_equalIn_bool' w n t a b hu
  ·rename_i hu
   obtain ⟨a, b, rfl, rfl, rfl⟩ := eqStr_ok h hx hy
   simp only [asV, hu, List.headD_cons]
   rw [run_equalIn_string w n t a b hu, beq_toListBytes]
  ·rename_i fs hu
   split at h
   ·rename_i hp
    simp only [asV, hu]
    have hf : P.fieldsOf t = fs := by simp [Program.fieldsOf, hu]
    rw [run_equalIn_struct (P := P) w n t _ _ (by rw [hf]; exact hu) hp, hf]
    exact eqFs_ok (eqV_ok n) fs.toList xs ys r h cs ds hx hy
   ·cases h
  ·cases h
theorem RowT_slice {okr ok : Nat → Prop} {ty : Ty} {xs : List ty.T} {v : Value} (h : RowT w okr ok ty xs v) : ∃ A c, v = .slice A xs.length c ∧ (A = none → xs = []) := by
 obtain ⟨A, c, h1, h2, h3⟩ := h
 refine ⟨A, c, h1, fun hA => ?_⟩
 rcases h3 with h3 | ⟨b, o, h4, _⟩
 ·exact h3
 ·rw [hA] at h4; cases h4
inductive NilForm (P : Program) (t : TypeId) : Value → Prop
 | sl (e A n c) (hu : P.underlying t = some (.slice e)) : NilForm P t (.slice A n c)
 | ptr (e A) (hu : P.underlying t = some (.pointer e)) : NilForm P t (.pointer A)
 | nilf (a b c) (hu : P.underlying t = some (.func a b c)) : NilForm P t .nilFunc
 | fn (a b c f x y) (hu : P.underlying t = some (.func a b c)) : NilForm P t (.func f x y)
theorem fitsNil_form {t : TypeId} {a : AV} (h : fitsNil P t a = true) {u : Value} (hu : RepA C w a u) : NilForm P t u := by
 unfold fitsNil at h
 split at h
 ·rename_i e hk; rw [RepA_nils] at hu; subst hu; exact .sl _ _ _ _ hk
 ·rename_i e hk; rw [RepA_sl] at hu; obtain ⟨A, c, rfl, _⟩ := RowT_slice hu; exact .sl _ _ _ _ hk
 ·rename_i e hk; rw [RepA_bv] at hu; obtain ⟨A, c, rfl, _⟩ := RowT_slice hu; exact .sl _ _ _ _ hk
 ·rename_i e hk; rw [RepA_nilp] at hu; subst hu; exact .ptr _ _ hk
 ·rename_i e hk; rw [RepA_ptr] at hu; obtain ⟨l, b, _, _, _, rfl⟩ := hu; exact .ptr _ _ hk
 ·rename_i e hk; rw [RepA] at hu; obtain ⟨b, o, us, rfl, _⟩ := hu; exact .ptr _ _ hk
 ·rename_i x y z hk; rw [RepA_nilf] at hu; subst hu; exact .nilf _ _ _ hk
 ·rename_i x y z hk; rw [RepA_fn] at hu; obtain ⟨p, q, hu, _⟩ := hu; obtain ⟨_, _, _, rfl⟩ := hu.form; exact .fn _ _ _ _ _ _ hk
 ·cases h
def Value.isNilV : Value → Bool
 | .slice none _ _ => true
 | .pointer none => true
 | .nilFunc => true
 | _ => false
theorem isNil_ok {a z : AV} (h : isNil a = some z) {u : Value} (hu : RepA C w a u) : RepA C w z (.bool (Value.isNilV u)) := by
 unfold isNil at h
 split at h <;> first | (cases h; done) | skip
 ·rw [RepA_nils] at hu; subst hu; cases h; exact RepA_vb
 ·rw [RepA_nilp] at hu; subst hu; cases h; exact RepA_vb
 ·rw [RepA_nilf] at hu; subst hu; cases h; exact RepA_vb
 ·rw [RepA_ptr] at hu; obtain ⟨l, b, _, _, _, rfl⟩ := hu; cases h; exact RepA_vb
 ·rw [RepA] at hu; obtain ⟨b, o, us, rfl, _⟩ := hu; cases h; exact RepA_vb
 ·rw [RepA_fn] at hu; obtain ⟨p, q, hu, _⟩ := hu; obtain ⟨_, _, _, rfl⟩ := hu.form; cases h; exact RepA_vb
 ·rw [RepA_sl] at hu; obtain ⟨A, c, rfl, hA⟩ := RowT_slice hu; cases h
  refine RepA_nt.2 ⟨_, rfl, fun ht => ?_⟩
  cases A with
  | none => rw [hA rfl]; rfl
  | some x => cases ht
 ·rw [RepA_bv] at hu; obtain ⟨A, c, rfl, hA⟩ := RowT_slice hu; cases h
  refine RepA_nt.2 ⟨_, rfl, fun ht => ?_⟩
  cases A with
  | none => rw [hA rfl]; rfl
  | some x => cases ht
theorem isNilA_ok {a : AV} (h : isNilA a = true) {u : Value} (hu : RepA C w a u) : u = .slice none 0 0 ∨ u = .pointer none ∨ u = .nilFunc := by
 unfold isNilA at h
 split at h
 ·exact .inl (RepA_nils.1 hu)
 ·exact .inr (.inl (RepA_nilp.1 hu))
 ·exact .inr (.inr (RepA_nilf.1 hu))
 ·cases h
theorem run_equalIn_nil_r {t : TypeId} {u v : Value} (hu : NilForm P t u) (hv : NilForm P t v) (h : v = .slice none 0 0 ∨ v = .pointer none ∨ v = .nilFunc) (n : Nat) : (Op.equalIn (n + 1) t u v).run P w = .ok (Value.isNilV u) w := by
 rcases h with rfl | rfl | rfl
 ·cases hv with
  | sl e A n c h1 =>
   cases hu with
   | sl e2 A2 n2 c2 h2 =>
    simp only [Op.equalIn, Sem.run_bind, run_underlying h1 w, Result.andThen_ok]
    cases A2 <;> rfl
   | ptr e2 A2 h2 => rw [h1] at h2; cases h2
   | nilf a b c h2 => rw [h1] at h2; cases h2
   | fn a b c f x y h2 => rw [h1] at h2; cases h2
 ·cases hv with
  | ptr e A h1 =>
   cases hu with
   | ptr e2 A2 h2 =>
    simp only [Op.equalIn, Sem.run_bind, run_underlying h1 w, Result.andThen_ok]
    cases A2 <;> rfl
   | sl e2 A2 n2 c2 h2 => rw [h1] at h2; cases h2
   | nilf a b c h2 => rw [h1] at h2; cases h2
   | fn a b c f x y h2 => rw [h1] at h2; cases h2
 ·cases hv with
  | nilf a b c h1 =>
   cases hu with
   | nilf a2 b2 c2 h2 => simp only [Op.equalIn, Sem.run_bind, run_underlying h1 w, Result.andThen_ok]; rfl
   | fn a2 b2 c2 f x y h2 => simp only [Op.equalIn, Sem.run_bind, run_underlying h1 w, Result.andThen_ok]; rfl
   | sl e2 A2 n2 c2 h2 => rw [h1] at h2; cases h2
   | ptr e2 A2 h2 => rw [h1] at h2; cases h2
theorem run_equalIn_nil_l {t : TypeId} {u v : Value} (hu : NilForm P t u) (hv : NilForm P t v) (h : u = .slice none 0 0 ∨ u = .pointer none ∨ u = .nilFunc) (n : Nat) : (Op.equalIn (n + 1) t u v).run P w = .ok (Value.isNilV v) w := by
 rcases h with rfl | rfl | rfl
 ·cases hu with
  | sl e A n c h1 =>
   cases hv with
   | sl e2 A2 n2 c2 h2 =>
    simp only [Op.equalIn, Sem.run_bind, run_underlying h1 w, Result.andThen_ok]
    cases A2 <;> rfl
   | ptr e2 A2 h2 => rw [h1] at h2; cases h2
   | nilf a b c h2 => rw [h1] at h2; cases h2
   | fn a b c f x y h2 => rw [h1] at h2; cases h2
 ·cases hu with
  | ptr e A h1 =>
   cases hv with
   | ptr e2 A2 h2 =>
    simp only [Op.equalIn, Sem.run_bind, run_underlying h1 w, Result.andThen_ok]
    cases A2 <;> rfl
   | sl e2 A2 n2 c2 h2 => rw [h1] at h2; cases h2
   | nilf a b c h2 => rw [h1] at h2; cases h2
   | fn a b c f x y h2 => rw [h1] at h2; cases h2
 ·cases hu with
  | nilf a b c h1 =>
   cases hv with
   | nilf a2 b2 c2 h2 => simp only [Op.equalIn, Sem.run_bind, run_underlying h1 w, Result.andThen_ok]; rfl
   | fn a2 b2 c2 f x y h2 => simp only [Op.equalIn, Sem.run_bind, run_underlying h1 w, Result.andThen_ok]; rfl
   | sl e2 A2 n2 c2 h2 => rw [h1] at h2; cases h2
   | ptr e2 A2 h2 => rw [h1] at h2; cases h2
def Whole (u : Value) : Prop := match u with
 | .int _ _ => False
 | .string _ => False
 | .float _ _ => False
 | .complex _ _ _ => False
 | .nilIface => False
 | .iface _ _ => False
 | _ => True
theorem binOp_eql {t : TypeId} {u v : Value} (hu : Whole u) (hv : Whole v) : (binOp .eql t u v).run P w = ((Op.equal t u v).run P w).andThen fun b w' => .ok (.bool b) w' := by
 cases u <;> first | (exact hu.elim) | skip
 all_goals (cases v <;> first | (exact hv.elim) | (simp only [binOp, Sem.run_bind]; rfl))
theorem binOp_neq {t : TypeId} {u v : Value} (hu : Whole u) (hv : Whole v) : (binOp .neq t u v).run P w = ((Op.equal t u v).run P w).andThen fun b w' => .ok (.bool (!b)) w' := by
 cases u <;> first | (exact hu.elim) | skip
 all_goals (cases v <;> first | (exact hv.elim) | (simp only [binOp, Sem.run_bind]; rfl))
theorem guard_whole {op : BinOp} {t : TypeId} {x y : Operand} {u v : Value} (hu : Whole u) (hv : Whole v) (hg : (∃ a, u = .agg a) → P.eqGuardType P.depth t = false) : (eqGuard op t x y u v).run P w = .ok () w := by
 by_cases ha : ∃ a, u = .agg a
 ·obtain ⟨a, rfl⟩ := ha
  have hm := hg ⟨a, rfl⟩
  by_cases hb : ∃ b, v = .agg b
  ·obtain ⟨b, rfl⟩ := hb
   exact run_eqGuard_agg w op t x y a b hm
  ·unfold eqGuard
   cases op <;> cases v <;> first | rfl | (exact hv.elim) | (exact absurd ⟨_, rfl⟩ hb)
 ·unfold eqGuard
  cases op <;> cases u <;> first | rfl | (exact hu.elim) | (exact absurd ⟨_, rfl⟩ ha)
theorem NilForm.whole {t : TypeId} {u : Value} (h : NilForm P t u) : Whole u := by cases h <;> trivial
theorem NilForm.noAgg {t : TypeId} {u : Value} (h : NilForm P t u) : ¬ ∃ a, u = .agg a := by
 rintro ⟨a, rfl⟩
 cases h
theorem eqA_ok {t : TypeId} {a b z : AV} (h : eqA P t a b = some z) {u v : Value} (hu : RepA C w a u) (hv : RepA C w b v) (x y : Operand) :
  ∃ r, (Op.equal t u v).run P w = .ok r w ∧ RepA C w z (.bool r) ∧ Whole u ∧ Whole v ∧ ((∃ a, u = .agg a) → P.eqGuardType P.depth t = false) := by
 unfold eqA at h
 split at h
 ·split at h
  ·rename_i hk
   cases h
   obtain rfl := RepA_bool.1 hu
   obtain rfl := RepA_bool.1 hv
   exact ⟨_, run_equalIn_bool' w 9999 t _ _ hk, RepA_vb, trivial, trivial, fun ⟨a, ha⟩ => by cases ha⟩
  ·cases h
 ·split at h
  ·rename_i fs hm hk
   split at h
   ·rename_i r hr
    cases h
    obtain ⟨cs, rfl, h1⟩ := RepA_st.1 hu
    obtain ⟨ds, rfl, h2⟩ := RepA_st.1 hv
    have := eqV_ok (w := w) (C := C) Op.maxDepth t _ _ r hr cs.toList ds.toList (RepL_cellsT h1) (RepL_cellsT h2)
    simp only [asV, hk, Array.toArray_toList] at this
    exact ⟨r, this, RepA_vb, trivial, trivial, fun _ => hm⟩
   ·cases h
  ·cases h
 ·split at h
  ·rename_i hf
   simp only [Bool.and_eq_true] at hf
   have fu := fitsNil_form hf.1 hu
   have fv := fitsNil_form hf.2 hv
   split at h
   ·rename_i hb
    exact ⟨_, run_equalIn_nil_r fu fv (isNilA_ok hb hv) 9999, isNil_ok h hu, fu.whole, fv.whole, fun ha => absurd ha fu.noAgg⟩
   ·split at h
    ·rename_i ha
     exact ⟨_, run_equalIn_nil_l fu fv (isNilA_ok ha hu) 9999, isNil_ok h hv, fu.whole, fv.whole, fun ha => absurd ha fu.noAgg⟩
    ·cases h
  ·cases h
theorem notA_ok {a z : AV} (h : notA a = some z) {r : Bool} (hr : RepA C w a (.bool r)) : RepA C w z (.bool (!r)) := by
 unfold notA at h
 split at h
 ·cases h
  have := RepA_bool.1 hr
  cases this
  exact RepA_vb
 ·cases h
  rename_i may yes
  obtain ⟨t, h1, h2⟩ := RepA_nt.1 hr
  cases h1
  refine RepA_nt.2 ⟨_, rfl, fun ht => h2 ?_⟩
  cases r <;> cases yes <;> simp_all
 ·cases h
theorem binE_ok {t : TypeId} {op : BinOp} {a b z : AV} (h : binE P t op a b = some (true, z)) {u v : Value} (hu : RepA C w a u) (hv : RepA C w b v) (x y : Operand) :
  ∃ r, (do eqGuard op t x y u v; binOp op t u v).run P w = .ok r w ∧ RepA C w z r := by
 unfold binE at h
 split at h
 ·rename_i ka m kb n
  obtain rfl := RepA_int.1 hu
  obtain rfl := RepA_int.1 hv
  split at h
  ·simp only [Option.some.injEq, Prod.mk.injEq, decide_eq_true_eq] at h
   obtain ⟨h1, rfl⟩ := h
   exact ⟨_, shift_ok h1 t x y (.inl rfl), RepA_vi⟩
  ·simp only [Option.some.injEq, Prod.mk.injEq, decide_eq_true_eq] at h
   obtain ⟨h1, rfl⟩ := h
   exact ⟨_, shift_ok h1 t x y (.inr rfl), RepA_vi⟩
  ·split at h
   ·rename_i he _
    subst he
    simp only [Option.some.injEq, Prod.mk.injEq, Bool.not_eq_true', beq_eq_false_iff_ne, ne_eq] at h
    obtain ⟨h1, rfl⟩ := h
    exact ⟨_, div_ok h1 t x y (.inl rfl), RepA_vi⟩
   ·cases h
  ·split at h
   ·rename_i he _
    subst he
    simp only [Option.some.injEq, Prod.mk.injEq, Bool.not_eq_true', beq_eq_false_iff_ne, ne_eq] at h
    obtain ⟨h1, rfl⟩ := h
    exact ⟨_, div_ok h1 t x y (.inr rfl), RepA_vi⟩
   ·cases h
  ·split at h
   ·rename_i he _
    subst he
    split at h
    ·rename_i z2 hz
     simp only [Option.some.injEq, Prod.mk.injEq, true_and] at h
     subst h
     exact binInt_ok hz t x y
    ·cases h
   ·cases h
 ·rename_i m n
  obtain rfl := RepA_str.1 hu
  obtain rfl := RepA_str.1 hv
  split at h
  ·simp only [Option.some.injEq, Prod.mk.injEq, Nat.ble_eq] at h
   obtain ⟨h1, rfl⟩ := h
   exact ⟨_, addStr_ok h1 t x y, RepA_vs⟩
  ·split at h
   ·rename_i z2 hz
    simp only [Option.some.injEq, Prod.mk.injEq, true_and] at h
    subst h
    exact binStr_ok hz t x y
   ·cases h
 ·split at h
  ·split at h
   ·rename_i z2 hz
    simp only [Option.some.injEq, Prod.mk.injEq, true_and] at h
    subst h
    obtain ⟨r, h1, h2, h3, h4, h5⟩ := eqA_ok (w := w) hz hu hv x y
    refine ⟨_, ?_, h2⟩
    rw [Sem.run_bind, guard_whole h3 h4 h5, Result.andThen_ok, binOp_eql h3 h4, h1]
    rfl
   ·cases h
  ·split at h
   ·rename_i z2 hz
    split at h
    ·rename_i z3 hz3
     simp only [Option.some.injEq, Prod.mk.injEq, true_and] at h
     subst h
     obtain ⟨r, h1, h2, h3, h4, h5⟩ := eqA_ok (w := w) hz hu hv x y
     refine ⟨_, ?_, notA_ok hz3 h2⟩
     rw [Sem.run_bind, guard_whole h3 h4 h5, Result.andThen_ok, binOp_neq h3 h4, h1]
     rfl
    ·cases h
   ·cases h
  ·cases h
theorem unA_ok {op : UnOp} {a z : AV} (h : unA op a = some z) {u : Value} (hu : RepA C w a u) : ∃ r, (Op.unary op u).run P w = .ok r w ∧ RepA C w z r := by
 unfold unA at h
 split at h
 ·cases h; obtain rfl := RepA_int.1 hu; exact ⟨_, rfl, RepA_vi⟩
 ·cases h; obtain rfl := RepA_int.1 hu; exact ⟨_, rfl, RepA_vi⟩
 ·have hb : ∃ r, u = .bool r := by
   unfold notA at h
   split at h
   ·exact ⟨_, RepA_bool.1 hu⟩
   ·obtain ⟨t, h1, _⟩ := RepA_nt.1 hu; exact ⟨t, h1⟩
   ·cases h
  obtain ⟨r, rfl⟩ := hb
  exact ⟨_, rfl, notA_ok h hu⟩
 ·cases h
end
end AX
namespace AX
def OneCells (cs : List Value) : Prop := ∀ u ∈ cs, u.oneCell' = true
section
variable {P : Program} {C : Ctx} {w : World}
theorem RepTs_nil {ok : Nat → Prop} {x : Ty.Ts []} {cs : List Value} : RepTs w ok [] x cs ↔ cs = [] := by rw [RepTs]
theorem RepTs_cons {ok : Nat → Prop} {t : Ty} {r : List Ty} {x : Ty.Ts (t :: r)} {cs : List Value} : RepTs w ok (t :: r) x cs ↔ ∃ u q, cs = u :: q ∧ isSt t = false ∧ RepT w ok t x.1 [u] ∧ RepTs w ok r x.2 q := by rw [RepTs]
theorem RepT_cast {ok : Nat → Prop} {a b : Ty} {x : a.T} {y : b.T} {cs : List Value} (h : castT a b x = some y) (hx : RepT w ok a x cs) : RepT w ok b y cs := by
 unfold castT at h
 split at h
 ·rename_i p _
  obtain ⟨e⟩ := p
  subst e
  cases h
  exact hx
 ·cases h
theorem castT_eq {a b : Ty} {x : a.T} {y : b.T} (h : castT a b x = some y) : a = b := by
 unfold castT at h
 split at h
 ·rename_i p _; exact p.down
 ·cases h
theorem castL_eq {a b : Ty} {x : List a.T} {y : List b.T} (h : castL a b x = some y) : a = b := by
 unfold castL at h
 split at h
 ·rename_i p _; exact p.down
 ·cases h
theorem RowT_cast {okr ok : Nat → Prop} {a b : Ty} {x : List a.T} {y : List b.T} {v : Value} (h : castL a b x = some y) (hx : RowT w okr ok a x v) : RowT w okr ok b y v := by
 unfold castL at h
 split at h
 ·rename_i p _
  obtain ⟨e⟩ := p
  subst e
  cases h
  exact hx
 ·cases h
theorem castL_self {a : Ty} {x y : List a.T} (h : castL a a x = some y) : y = x := by
 unfold castL at h
 split at h
 ·rename_i p _
  obtain ⟨e⟩ := p
  cases h
  rfl
 ·cases h
theorem one_noAgg {cs : Array Value} {u : Value} (h : u.oneCell' = true) (e : u = .agg cs) : False := by subst e; cases h
theorem RepD_one {x : DV} {u : Value} (h : RepD w C.ok x u) (h1 : u.oneCell' = true) : isSt x.t = false ∧ RepT w C.ok x.t x.x [u] := by
 obtain ⟨cs, h2, h3⟩ := h
 cases hx : isSt x.t with
 | true => rw [hx] at h3; exact (one_noAgg h1 h3).elim
 | false => rw [hx] at h3; dsimp only at h3; subst h3; exact ⟨rfl, h2⟩
theorem rowD_rep {ty : Ty} {x : AV} {xs : List ty.T} {u : Value} (h : rowD ty x = some xs) (hx : RepA C w x u) : RowT w C.ok C.ok ty xs u := by
 unfold rowD at h
 split at h
 ·cases h; rw [RepA_nils] at hx; subst hx; exact ⟨none, 0, rfl, Nat.le_refl _, .inl rfl⟩
 ·exact RowT_cast h (RepA_bv.1 hx)
 ·exact RowT_cast h (RepA_sl.1 hx)
 ·cases h
theorem dTo_rep {t : Ty} {x : AV} {y : t.T} {u : Value} (h : dTo t x = some y) (hx : RepA C w x u) (h1 : u.oneCell' = true) : isSt t = false ∧ RepT w C.ok t y [u] := by
 unfold dTo at h
 cases x <;> first | (cases h; done) | skip
 rename_i z
 obtain ⟨h2, h3⟩ := RepD_one (RepA_d.1 hx) h1
 have e := castT_eq h
 exact ⟨e ▸ h2, RepT_cast h h3⟩
theorem cellTo_rep {t : Ty} {x : AV} {y : t.T} {u : Value} (h : cellTo t x = some y) (hx : RepA C w x u) (h1 : u.oneCell' = true) : isSt t = false ∧ RepT w C.ok t y [u] := by
 cases t with
 | sl e t2 => exact ⟨rfl, RepT_sl.2 ⟨u, rfl, rowD_rep h hx⟩⟩
 | int k => exact dTo_rep h hx h1
 | bool => exact dTo_rep h hx h1
 | str => exact dTo_rep h hx h1
 | st ts => cases h
theorem cellsTo_rep : ∀ {ts : List Ty} {xs : List AV} {y : Ty.Ts ts} {cs : List Value}, cellsTo ts xs = some y → RepL C w xs cs → OneCells cs → RepTs w C.ok ts y cs
 | [], [], y, cs, h, hx, _ => RepTs_nil.2 (RepL_nil.1 hx)
 | t :: r, x :: xs, y, cs, h, hx, h1 => by
  rw [cellsTo] at h
  split at h
  ·rename_i a b ha hb
   cases h
   obtain ⟨u, q, rfl, h2, h3⟩ := RepL_cons.1 hx
   obtain ⟨h4, h5⟩ := cellTo_rep ha h2 (h1 u List.mem_cons_self)
   exact RepTs_cons.2 ⟨u, q, rfl, h4, h5, cellsTo_rep hb h3 (fun z hz => h1 z (List.mem_cons_of_mem _ hz))⟩
  ·cases h
 | [], _ :: _, y, cs, h, _, _ => by simp [cellsTo] at h
 | _ :: _, [], y, cs, h, _, _ => by simp [cellsTo] at h
theorem RepTs_of_cells : ∀ {ts : List Ty} {x : Ty.Ts ts} {cs : List Value}, RepL C w ((cellsT ts x).map .d) cs → OneCells cs → RepTs w C.ok ts x cs
 | [], _, cs, h, _ => by rw [RepTs]; exact RepL_nil.1 h
 | t :: r, x, cs, h, h1 => by
  simp only [cellsT, List.map_cons] at h
  obtain ⟨u, q, rfl, h2, h3⟩ := RepL_cons.1 h
  obtain ⟨h4, h5⟩ := RepD_one (RepA_d.1 h2) (h1 u List.mem_cons_self)
  rw [RepTs]
  exact ⟨u, q, rfl, h4, h5, RepTs_of_cells h3 (fun z hz => h1 z (List.mem_cons_of_mem _ hz))⟩
theorem RepT_cellsD {x : DV} {cs : List Value} (h : RepT w C.ok x.t x.x cs) : RepL C w ((cellsD x).map .d) cs := by
 obtain ⟨t, x⟩ := x
 cases t with
 | st ts => rw [RepT] at h; exact RepL_cellsT h
 | _ =>
  all_goals
   have hl := RepT_len _ _ _ h
   simp only [Ty.sz] at hl
   obtain ⟨u, rfl⟩ := List.length_eq_one_iff.1 hl
   exact RepL_cons.2 ⟨u, [], rfl, RepA_d.2 ⟨[u], h, by simp [isSt]⟩, RepL_nil.2 rfl⟩
theorem dTo_one {x : AV} {t : Ty} {y : t.T} (h : dTo t x = some y) (ht : isSt t = false) : cellsA x = [x] := by
 unfold dTo at h
 cases x <;> first | (cases h; done) | skip
 rename_i z
 have e := castT_eq h
 obtain ⟨t2, z⟩ := z
 dsimp only at e
 subst e
 cases t2 <;> first | rfl | cases ht
theorem cellsA_one {x : AV} {t : Ty} {y : t.T} (h : cellTo t x = some y) : cellsA x = [x] := by
 cases t with
 | sl e t2 =>
  unfold cellTo rowD at h
  dsimp only at h
  split at h <;> first | rfl | cases h
 | int k => exact dTo_one h rfl
 | bool => exact dTo_one h rfl
 | str => exact dTo_one h rfl
 | st ts => cases h
theorem cell1_rep {t : Ty} {x : AV} {y : t.T} {cs : List Value} (h : cellTo t x = some y) (hx : RepL C w (cellsA x) cs) (h1 : OneCells cs) : RepT w C.ok t y cs := by
 rw [cellsA_one h] at hx
 obtain ⟨u, q, rfl, h2, h3⟩ := RepL_cons.1 hx
 obtain rfl := RepL_nil.1 h3
 exact (cellTo_rep h h2 (h1 u List.mem_cons_self)).2
theorem toTy_rep {t : Ty} {x : AV} {y : t.T} {cs : List Value} (h : toTy t x = some y) (hx : RepL C w (cellsA x) cs) (h1 : OneCells cs) : RepT w C.ok t y cs := by
 cases t with
 | st ts =>
  unfold toTy toSt at h
  dsimp only at h
  rw [RepT]
  split at h
  ·rename_i q hq
   cases h
   unfold dTo at hq
   cases x <;> first | (cases hq; done) | skip
   rename_i z
   have e := castT_eq hq
   obtain ⟨t2, z⟩ := z
   dsimp only at e
   subst e
   have := RepT_cast (ok := C.ok) (w := w) (cs := cs) hq (by rw [RepT]; exact RepTs_of_cells hx h1)
   rw [RepT] at this
   exact this
  ·exact cellsTo_rep h hx h1
 | sl e t2 => exact cell1_rep h hx h1
 | int k => exact cell1_rep h hx h1
 | bool => exact cell1_rep h hx h1
 | str => exact cell1_rep h hx h1
theorem allD_rep : ∀ {xs : List AV} {ds : List DV} {cs : List Value}, allD xs = some ds → RepL C w xs cs → OneCells cs → RepTs w C.ok (ds.map DV.t) (packT ds) cs
 | [], ds, cs, h, hx, _ => by
  rw [allD] at h
  cases h
  exact RepTs_nil.2 (RepL_nil.1 hx)
 | x :: r, ds, cs, h, hx, h1 => by
  obtain ⟨u, q, rfl, h2, h3⟩ := RepL_cons.1 hx
  unfold allD at h
  split at h
  ·rename_i he; cases he
  ·rename_i y r2 he
   cases he
   split at h
   ·rename_i ys hys
    cases h
    obtain ⟨h4, h5⟩ := RepD_one (RepA_d.1 h2) (h1 u List.mem_cons_self)
    exact RepTs_cons.2 ⟨u, q, rfl, h4, h5, allD_rep hys h3 (fun z hz => h1 z (List.mem_cons_of_mem _ hz))⟩
   ·cases h
  ·rename_i e ty xs r2 he
   cases he
   split at h
   ·rename_i ys hys
    cases h
    exact RepTs_cons.2 ⟨u, q, rfl, rfl, RepT_sl.2 ⟨u, rfl, RepA_bv.1 h2⟩, allD_rep hys h3 (fun z hz => h1 z (List.mem_cons_of_mem _ hz))⟩
   ·cases h
  ·cases h
theorem mkA_rep {xs : List AV} {cs : List Value} (hx : RepL C w xs cs) (h1 : OneCells cs) : RepA C w (mkA xs) (.agg cs.toArray) := by
 unfold mkA
 split
 ·rename_i ds h
  exact RepA_st.2 ⟨_, rfl, by simpa using allD_rep h hx h1⟩
 ·exact RepA_agg.2 ⟨_, rfl, by simpa using hx, fun u hu => h1 u (by simpa using hu)⟩
def elemE (el : El) (i : Nat) : AV := match el with
 | .data ty xs => .d ⟨ty, xs.getD i (zeroT ty)⟩
 | .mix xs => xs.getD i .top
theorem cell_row {b k : Nat} {cur : Array Value} {e : TypeId} {fr : Nat × Nat} (h : w.heap[b]? = some (.cells cur e fr)) : w.cell? ⟨b, k, none⟩ = cur[k]? := by simp [World.cell?, h]
theorem elem_cells {o : Obj} {g : Nat} {cur : Array Value} (h : ElAt C w o.el g cur) {i : Nat} (hi : i < lenO o) :
  ∃ us, RepL C w (cellsA (elemE o.el i)) us ∧ us.length = g ∧ OneCells us ∧ (∀ (j : Nat) (u : Value), us[j]? = some u → cur[i * g + j]? = some u) ∧ (∀ ty xs, o.el = .data ty xs → RepT w C.ok ty (xs.getD i (zeroT ty)) us) := by
 obtain ⟨e, g', el⟩ := o
 cases el with
 | data ty xs =>
  simp only [lenO] at hi
  have hget : xs[i]? = some (xs.getD i (zeroT ty)) := by
   rw [List.getD_eq_getElem?_getD, List.getElem?_eq_getElem hi]
   rfl
  obtain ⟨us, h1, h2⟩ := h.2 i _ hget
  refine ⟨us, RepT_cellsD (x := ⟨ty, xs.getD i (zeroT ty)⟩) h1, (RepT_len _ _ _ h1).trans h.1, RepT_one _ _ _ h1, h2, ?_⟩
  intro ty2 xs2 he
  cases he
  exact h1
 | mix xs =>
  simp only [lenO] at hi
  have hget : xs[i]? = some (xs.getD i .top) := by
   rw [List.getD_eq_getElem?_getD, List.getElem?_eq_getElem hi]
   rfl
  obtain ⟨us, h1, h2, h3, h4⟩ := h i _ hget
  exact ⟨us, h1, h2, h3, h4, fun ty xs2 he => by cases he⟩
theorem run_loadVar_agg {t : TypeId} {n : Nat} {b o : Nat} {cs : List Value} (hag : isAgg? P t = some true) (hsz : sizeOf? P t = some n) (hn : cs.length = n) (h : ∀ (j : Nat) (u : Value), cs[j]? = some u → w.cell? ⟨b, o + j, none⟩ = some u) :
  (loadVar t ⟨b, o, none⟩).run P w = .ok (.agg cs.toArray) w := by
 have hl : (loadCells ⟨b, o, none⟩ cs.length).run P w = .ok cs.toArray w := run_loadCells_list (P := P) w ⟨b, o, none⟩ cs (fun j v hv => by
  have hadd : (⟨b, o, none⟩ : Addr).add j = ⟨b, o + j, none⟩ := by unfold Addr.add; split <;> simp_all
  rw [hadd]
  exact h j v hv)
 have ha : (isAgg t).run P w = .ok true w := by
  unfold isAgg? at hag
  cases hu : P.underlying t with
  | none => rw [hu] at hag; cases hag
  | some d =>
   rw [run_isAgg hu]
   rw [hu] at hag
   cases d <;> first | rfl | cases hag
 rw [hn] at hl
 simp [loadVar, Sem.run_bind, ha, run_sizeOf hsz, hl]
theorem run_loadVar_one {t : TypeId} {b o : Nat} {u : Value} (hag : isAgg? P t = some false) (h : w.cell? ⟨b, o, none⟩ = some u) : (loadVar t ⟨b, o, none⟩).run P w = .ok u w := by
 have ha : (isAgg t).run P w = .ok false w := by
  unfold isAgg? at hag
  cases hu : P.underlying t with
  | none => rw [hu] at hag; cases hag
  | some d =>
   rw [run_isAgg hu]
   rw [hu] at hag
   cases d <;> first | rfl | cases hag
 simp [loadVar, Sem.run_bind, ha, run_load, h]
end
end AX
namespace AX
section
variable {P : Program} {C : Ctx} {w : World}
theorem packD_rep : ∀ {ds : List DV} {cs : List Value}, RepL C w (ds.map .d) cs → OneCells cs → RepTs w C.ok (ds.map DV.t) (packT ds) cs
 | [], cs, h, _ => RepTs_nil.2 (RepL_nil.1 h)
 | y :: r, cs, h, h1 => by
  rw [List.map_cons] at h
  obtain ⟨u, q, rfl, h2, h3⟩ := RepL_cons.1 h
  obtain ⟨h4, h5⟩ := RepD_one (RepA_d.1 h2) (h1 u List.mem_cons_self)
  exact RepTs_cons.2 ⟨u, q, rfl, h4, h5, packD_rep h3 (fun z hz => h1 z (List.mem_cons_of_mem _ hz))⟩
theorem packD_agg {ds : List DV} {cs : List Value} (h : RepL C w (ds.map .d) cs) (h1 : OneCells cs) : RepA C w (.d (packD ds)) (.agg cs.toArray) :=
 RepA_st.2 ⟨_, rfl, by simpa using packD_rep h h1⟩
theorem OneCells.take {cs : List Value} (h : OneCells cs) (n : Nat) : OneCells (cs.take n) := fun u hu => h u (List.mem_of_mem_take hu)
theorem OneCells.drop {cs : List Value} (h : OneCells cs) (n : Nat) : OneCells (cs.drop n) := fun u hu => h u (List.mem_of_mem_drop hu)
theorem OneCells.append {cs ds : List Value} (h : OneCells cs) (h2 : OneCells ds) : OneCells (cs ++ ds) := fun u hu => by
 rcases List.mem_append.1 hu with hu | hu
 ·exact h u hu
 ·exact h2 u hu
theorem OneCells.setCells {cs ds : List Value} (h : OneCells cs) (h2 : OneCells ds) (off : Nat) : OneCells (setCells cs off ds) :=
 ((h.take off).append h2).append (h.drop _)
theorem elemE_els (el : El) (i : Nat) (hi : i < (elsA el).length) : (elsA el)[i]? = some (elemE el i) := by
 cases el with
 | data ty xs =>
  simp only [elsA, List.length_map] at hi
  simp only [elsA, elemE, List.getElem?_map, List.getElem?_eq_getElem hi, Option.map_some, List.getD_eq_getElem?_getD, Option.getD_some]
 | mix xs =>
  simp only [elsA] at hi ⊢
  simp only [elemE, List.getElem?_eq_getElem hi, List.getD_eq_getElem?_getD, Option.getD_some]
theorem elsA_len (o : Obj) : (elsA o.el).length = lenO o := by
 obtain ⟨e, g, el⟩ := o
 cases el <;> simp [elsA, lenO]
theorem flat_rep {o : Obj} {g : Nat} {cur : Array Value} (h : ElAt C w o.el g cur) : ∀ (k : Nat), k ≤ lenO o →
  RepL C w (((elsA o.el).take k).flatMap cellsA) (cur.toList.take (k * g)) ∧ (cur.toList.take (k * g)).length = k * g ∧ OneCells (cur.toList.take (k * g))
 | 0, _ => by simp [RepL_nil, OneCells]
 | k + 1, hk => by
  obtain ⟨h1, h2, h3⟩ := flat_rep h k (by omega)
  obtain ⟨us, h4, h5, h6, h7, _⟩ := elem_cells h (i := k) (by omega)
  have hlen : (cur.toList.take (k * g) ++ us).length = (k + 1) * g := by rw [List.length_append, h2, h5, Nat.succ_mul]
  have hus : cur.toList.take ((k + 1) * g) = cur.toList.take (k * g) ++ us := by
   rw [Nat.succ_mul, List.take_add]
   congr 1
   apply List.ext_getElem?
   intro j
   rw [List.getElem?_take, List.getElem?_drop]
   by_cases hj : j < g
   ·rw [if_pos hj]
    have : us[j]? = some (us[j]'(by omega)) := List.getElem?_eq_getElem _
    have h8 := h7 j _ this
    rw [this, ← h8]
    simp
   ·rw [if_neg hj, List.getElem?_eq_none (by omega)]
  refine ⟨?_, by rw [hus]; exact hlen, by rw [hus]; exact h3.append h6⟩
  rw [hus, List.take_add_one, elemE_els o.el k (by rw [elsA_len]; omega)]
  simp only [Option.toList_some, List.flatMap_append, List.flatMap_cons, List.flatMap_nil, List.append_nil]
  exact RepL_append h1 h4
theorem getElem?_toList_take {cur : Array Value} {m j : Nat} {u : Value} (h : (cur.toList.take m)[j]? = some u) : cur[j]? = some u := by
 rw [List.getElem?_take] at h
 split at h
 ·simpa using h
 ·cases h
theorem readO_ok {o : Obj} {l : Loc} {b i off n : Nat} {agg : Bool} {x : AV} {t : TypeId} (hs : ObjAt C w o l) (hb : l.b = some b) (hi : i < l.n) (hr : readO o i off n agg = some x) (hsz : sizeOf? P t = some n) (hag : isAgg? P t = some agg) :
  ∃ v, (loadVar t ⟨b, i * l.g + off, none⟩).run P w = .ok v w ∧ RepA C w x v := by
 obtain ⟨b', cur, hb', hbk, hnc, hcm, hcs, hel⟩ : ∃ b' cur, l.b = some b' ∧ w.heap[b']? = some (.cells cur l.e (0, 0)) ∧ l.n ≤ l.cap ∧ l.cap ≤ maxLen ∧ cur.size = l.cap * l.g ∧ ElAt C w o.el l.g cur := by
  rcases hs.at_ with ⟨h1, _⟩ | h1
  ·rw [h1] at hb; cases hb
  ·exact h1
 rw [hb] at hb'
 cases hb'
 have hi' : i < lenO o := by rw [hs.n]; exact hi
 obtain ⟨us, h1, h2, h3, h4, h5⟩ := elem_cells hel hi'
 have hcell : ∀ (j : Nat) (u : Value), us[j]? = some u → w.cell? ⟨b, i * l.g + j, none⟩ = some u := fun j u hj => (cell_row hbk).trans (h4 j u hj)
 have hpart : ∀ (m : Nat), off + m ≤ us.length → ∀ (j : Nat) (u : Value), ((us.drop off).take m)[j]? = some u → w.cell? ⟨b, i * l.g + off + j, none⟩ = some u := by
  intro m _ j u hj
  rw [List.getElem?_take] at hj
  split at hj
  ·rw [List.getElem?_drop] at hj
   rw [Nat.add_assoc]
   exact hcell _ _ hj
  ·cases hj
 have hwhole : Nat.beq i 0 = true → Nat.beq off 0 = true → Nat.beq n (lenO o * o.g) = true → agg = true →
   (loadVar t ⟨b, i * l.g + off, none⟩).run P w = .ok (.agg (cur.toList.take (lenO o * l.g)).toArray) w ∧ RepL C w ((elsA o.el).flatMap cellsA) (cur.toList.take (lenO o * l.g)) ∧ OneCells (cur.toList.take (lenO o * l.g)) := by
  intro e1 e2 e3 e4
  obtain rfl := Nat.eq_of_beq_eq_true e1
  obtain rfl := Nat.eq_of_beq_eq_true e2
  have e3 := Nat.eq_of_beq_eq_true e3
  subst e4
  obtain ⟨f1, f2, f3⟩ := flat_rep hel (lenO o) (Nat.le_refl _)
  rw [List.take_of_length_le (by rw [elsA_len]; exact Nat.le_refl _)] at f1
  refine ⟨run_loadVar_agg hag hsz (by rw [f2, e3, hs.g]) (fun j u hj => ?_), f1, f3⟩
  rw [cell_row hbk]
  simpa using getElem?_toList_take hj
 unfold readO at hr
 split at hr
 ·rename_i ty xs hel2
  have hE : elemE o.el i = .d ⟨ty, xs.getD i (zeroT ty)⟩ := by rw [hel2]; rfl
  rw [hE] at h1
  have hT := h5 ty xs hel2
  dsimp only at hr
  split at hr
  ·rename_i hle
   rw [Nat.ble_eq, hs.g] at hle
   split at hr
   ·have hl := run_loadVar_agg (P := P) hag hsz (cs := (us.drop off).take n) (by simp; omega) (hpart n (by omega))
    split at hr
    ·rename_i he
     cases hr
     simp only [Bool.and_eq_true] at he
     obtain rfl := Nat.eq_of_beq_eq_true he.1.1.1
     have hn := Nat.eq_of_beq_eq_true he.1.1.2
     have hall : (us.drop 0).take n = us := by rw [List.drop_zero, List.take_of_length_le (by rw [h2, hn, hs.g]; exact Nat.le_refl _)]
     rw [hall] at hl
     refine ⟨_, hl, RepA_d.2 ⟨us, hT, ?_⟩⟩
     rw [he.2]
    ·cases hr
     refine ⟨_, hl, ?_⟩
     refine packD_agg ?_ ((h3.drop off).take n)
     have := RepL_take n (RepL_drop off (RepT_cellsD (x := ⟨ty, xs.getD i (zeroT ty)⟩) hT))
     simpa [List.map_drop, List.map_take] using this
   ·split at hr
    ·rename_i y hy
     cases hr
     have hm : ((cellsD ⟨ty, xs.getD i (zeroT ty)⟩).map AV.d)[off]? = some (.d y) := by rw [List.getElem?_map, hy]; rfl
     obtain ⟨u, h6, h7⟩ := RepL_get (RepT_cellsD (x := ⟨ty, xs.getD i (zeroT ty)⟩) hT) hm
     exact ⟨u, run_loadVar_one hag (hcell off u h6), h7⟩
    ·cases hr
  ·split at hr
   ·rename_i he
    cases hr
    simp only [Bool.and_eq_true] at he
    have hlen : lenO o = xs.length := by unfold lenO; rw [hel2]
    obtain ⟨f1, f2, f3⟩ := hwhole he.1.1.2 he.1.2 (by rw [hlen]; exact he.2) he.1.1.1
    refine ⟨_, f1, packD_agg ?_ f3⟩
    rw [hel2] at f2
    simp only [elsA, List.flatMap_map] at f2
    rw [List.map_flatMap]
    exact f2
   ·cases hr
 ·rename_i xs hel2
  have hE : elemE o.el i = xs.getD i .top := by rw [hel2]; rfl
  rw [hE] at h1
  dsimp only at hr
  split at hr
  ·rename_i hle
   rw [Nat.ble_eq, hs.g] at hle
   split at hr
   ·cases hr
    have hl := run_loadVar_agg (P := P) hag hsz (cs := (us.drop off).take n) (by simp; omega) (hpart n (by omega))
    exact ⟨_, hl, mkA_rep (RepL_take n (RepL_drop off h1)) ((h3.drop off).take n)⟩
   ·obtain ⟨u, h6, h7⟩ := RepL_get h1 hr
    exact ⟨u, run_loadVar_one hag (hcell off u h6), h7⟩
  ·split at hr
   ·rename_i he
    cases hr
    simp only [Bool.and_eq_true] at he
    have hlen : lenO o = xs.length := by unfold lenO; rw [hel2]
    obtain ⟨f1, f2, f3⟩ := hwhole he.1.1.2 he.1.2 (by rw [hlen]; exact he.2) he.1.1.1
    rw [hel2] at f2
    exact ⟨_, f1, mkA_rep f2 f3⟩
   ·cases hr
end
end AX
namespace AX
section
variable {P : Program} {C : Ctx} {w : World}
theorem cells_one {x : AV} {u : Value} (ht : isTop x = false) (h : RepA C w x u) : OneCells u.cells.toList := by
 have one1 : ∀ {v : Value}, v.oneCell' = true → OneCells v.cells.toList := by
  intro v hv z hz
  have : v.cells = #[v] := by cases v <;> first | rfl | cases hv
  rw [this] at hz
  rw [List.mem_singleton.1 hz]
  exact hv
 cases x with
 | d y =>
  obtain ⟨cs, h1, h2⟩ := RepA_d.1 h
  cases hs : isSt y.t with
  | true => rw [hs] at h2; subst h2; exact fun z hz => RepT_one _ _ _ h1 z (by simpa [Value.cells] using hz)
  | false => rw [hs] at h2; dsimp only at h2; subst h2; exact one1 (RepT_one _ _ _ h1 u List.mem_cons_self)
 | bv t e ty xs => obtain ⟨A, c, rfl, _⟩ := RepA_bv.1 h; exact one1 rfl
 | nils => rw [RepA_nils] at h; subst h; exact one1 rfl
 | nilp => rw [RepA_nilp] at h; subst h; exact one1 rfl
 | nilf => rw [RepA_nilf] at h; subst h; exact one1 rfl
 | undef => cases ht
 | ref id => rw [RepA] at h; obtain ⟨l, _, ⟨_, _, _, rfl⟩ | ⟨b, c, _, rfl, _⟩⟩ := h <;> exact one1 rfl
 | cut id a b => rw [RepA] at h; obtain ⟨l, _, _, A, c, rfl, _⟩ := h; exact one1 rfl
 | ptr id a b => rw [RepA] at h; obtain ⟨l, b, _, _, _, rfl⟩ := h; exact one1 rfl
 | vptr y off => rw [RepA] at h; obtain ⟨b, o, us, rfl, _⟩ := h; exact one1 rfl
 | agg xs => obtain ⟨cs, rfl, _, h3⟩ := RepA_agg.1 h; exact h3
 | tup xs => cases ht
 | fn f a b => obtain ⟨x, y, hf, _⟩ := RepA_fn.1 h; obtain ⟨_, _, _, rfl⟩ := hf.form; exact one1 rfl
 | nt a b => obtain ⟨t, rfl, _⟩ := RepA_nt.1 h; exact one1 rfl
 | top => cases ht
theorem setCells_get {α : Type} {xs ys : List α} {off : Nat} (h : off + ys.length ≤ xs.length) (j : Nat) : (setCells xs off ys)[j]? = if off ≤ j ∧ j < off + ys.length then ys[j - off]? else xs[j]? := by
 unfold setCells
 rw [List.append_assoc, List.getElem?_append]
 have hl : (xs.take off).length = off := by rw [List.length_take]; omega
 rw [hl]
 by_cases h1 : j < off
 ·rw [if_pos h1, if_neg (by omega), List.getElem?_take, if_pos h1]
 ·rw [if_neg h1, List.getElem?_append]
  by_cases h2 : j - off < ys.length
  ·rw [if_pos h2, if_pos (by omega)]
  ·rw [if_neg h2, if_neg (by omega), List.getElem?_drop]
   congr 1
   omega
theorem setCells_len {α : Type} {xs ys : List α} {off : Nat} (h : off + ys.length ≤ xs.length) : (setCells xs off ys).length = xs.length := by
 unfold setCells
 simp only [List.length_append, List.length_take, List.length_drop]
 omega
theorem chunk_get {α : Type} (g : Nat) : ∀ (n : Nat) (xs : List α) (k : Nat), (chunk g n xs)[k]? = if k < n then some ((xs.drop (k * g)).take g) else none
 | 0, xs, k => by simp [chunk]
 | n + 1, xs, 0 => by simp [chunk]
 | n + 1, xs, k + 1 => by
  rw [chunk, List.getElem?_cons_succ, chunk_get g n (xs.drop g) k, List.drop_drop]
  have : g + k * g = (k + 1) * g := by rw [Nat.succ_mul, Nat.add_comm]
  simp [this]
theorem chunk_len {α : Type} (g : Nat) : ∀ (n : Nat) (xs : List α), (chunk g n xs).length = n
 | 0, xs => rfl
 | n + 1, xs => by simp [chunk, chunk_len g n]
theorem cellsA_of_one {x : AV} {u : Value} (h : RepA C w x u) (h1 : u.oneCell' = true) : cellsA x = [x] := by
 cases x with
 | d y =>
  obtain ⟨h2, _⟩ := RepD_one (RepA_d.1 h) h1
  obtain ⟨t, y⟩ := y
  cases t <;> first | rfl | cases h2
 | agg xs => obtain ⟨cs, rfl, _⟩ := RepA_agg.1 h; cases h1
 | _ => rfl
theorem one_rep {c : List AV} {cs : List Value} (h : RepL C w c cs) (h1 : OneCells cs) : RepL C w (cellsA (one c)) cs := by
 unfold one
 split
 ·rename_i x
  obtain ⟨u, q, rfl, h2, h3⟩ := RepL_cons.1 h
  obtain rfl := RepL_nil.1 h3
  rw [cellsA_of_one h2 (h1 u List.mem_cons_self)]
  exact h
 ·have hm := mkA_rep h h1
  have ht : isTop (mkA c) = false := by unfold mkA; split <;> rfl
  simpa [Value.cells] using RepL_cells ht hm
def Holds (cur : Array Value) (g i : Nat) (us : List Value) : Prop := ∀ (j : Nat) (u : Value), us[j]? = some u → cur[i * g + j]? = some u
theorem ElAt_mixed {el : El} {g : Nat} {cur : Array Value} (h : ElAt C w el g cur) : ElAt C w (.mix (elsA el)) g cur := by
 cases el with
 | mix xs => exact h
 | data ty xs =>
  intro j x hj
  simp only [elsA, List.getElem?_map, Option.map_eq_some_iff] at hj
  obtain ⟨z, hz, rfl⟩ := hj
  obtain ⟨us, h1, h2⟩ := h.2 j z hz
  exact ⟨us, RepT_cellsD (x := ⟨ty, z⟩) h1, (RepT_len _ _ _ h1).trans h.1, RepT_one _ _ _ h1, h2⟩
section
variable {g i : Nat} {cur cur' : Array Value} {us' : List Value}
theorem ElAt_set_data {ty : Ty} {xs : List ty.T} {y : ty.T} (h : ElAt C w (.data ty xs) g cur) (hother : ∀ k, k ≠ i → ∀ j, j < g → cur'[k * g + j]? = cur[k * g + j]?) (hy : RepT w C.ok ty y us') (hh : Holds cur' g i us') :
  ElAt C w (.data ty (xs.set i y)) g cur' := by
 refine ⟨h.1, fun j x hj => ?_⟩
 rw [List.getElem?_set] at hj
 by_cases hij : i = j
 ·subst hij
  rw [if_pos rfl] at hj
  split at hj
  ·cases hj; exact ⟨us', hy, hh⟩
  ·cases hj
 ·rw [if_neg hij] at hj
  obtain ⟨us, h1, h2⟩ := h.2 j x hj
  refine ⟨us, h1, fun k u hk => ?_⟩
  have hkl : k < g := by rw [← h.1, ← RepT_len _ _ _ h1]; exact (List.getElem?_eq_some_iff.1 hk).1
  rw [hother j (Ne.symm hij) k hkl]
  exact h2 k u hk
theorem ElAt_set_mix {xs : List AV} {y : AV} (h : ElAt C w (.mix xs) g cur) (hother : ∀ k, k ≠ i → ∀ j, j < g → cur'[k * g + j]? = cur[k * g + j]?) (hy : RepL C w (cellsA y) us') (hl : us'.length = g) (h1 : OneCells us') (hh : Holds cur' g i us') :
  ElAt C w (.mix (xs.set i y)) g cur' := by
 intro j x hj
 rw [List.getElem?_set] at hj
 by_cases hij : i = j
 ·subst hij
  rw [if_pos rfl] at hj
  split at hj
  ·cases hj; exact ⟨us', hy, hl, h1, hh⟩
  ·cases hj
 ·rw [if_neg hij] at hj
  obtain ⟨us, h2, h3, h4, h5⟩ := h j x hj
  refine ⟨us, h2, h3, h4, fun k u hk => ?_⟩
  rw [hother j (Ne.symm hij) k (by rw [← h3]; exact (List.getElem?_eq_some_iff.1 hk).1)]
  exact h5 k u hk
end
theorem within_other {g i off : Nat} {cur : Array Value} {ds : List Value} (hk : i * g + off + ds.length ≤ cur.size) (hg : off + ds.length ≤ g) (k : Nat) (hki : k ≠ i) (j : Nat) (hj : j < g) :
  (setCells cur.toList (i * g + off) ds).toArray[k * g + j]? = cur[k * g + j]? := by
 rw [List.getElem?_toArray, setCells_get (by simpa using hk)]
 rw [if_neg]
 ·simp
 ·rintro ⟨h1, h2⟩
  rcases Nat.lt_or_gt_of_ne hki with h3 | h3
  ·have : (k + 1) * g ≤ i * g := Nat.mul_le_mul_right g h3
   rw [Nat.succ_mul] at this
   omega
  ·have : (i + 1) * g ≤ k * g := Nat.mul_le_mul_right g h3
   rw [Nat.succ_mul] at this
   omega
theorem within_holds {g i off : Nat} {cur : Array Value} {us ds : List Value} (hk : i * g + off + ds.length ≤ cur.size) (hl : us.length = g) (hg : off + ds.length ≤ g) (h : Holds cur g i us) :
  Holds (setCells cur.toList (i * g + off) ds).toArray g i (setCells us off ds) := by
 intro j u hj
 rw [setCells_get (by omega)] at hj
 rw [List.getElem?_toArray, setCells_get (by simpa using hk)]
 by_cases h1 : off ≤ j ∧ j < off + ds.length
 ·rw [if_pos h1] at hj
  rw [if_pos (by omega), ← hj]
  congr 1
  omega
 ·rw [if_neg h1] at hj
  rw [if_neg (by omega)]
  simpa using h j u hj
theorem toTys_get : ∀ {t : Ty} {xs : List AV} {ys : List t.T}, toTys t xs = some ys → ys.length = xs.length ∧ ∀ (k : Nat) (y : t.T), ys[k]? = some y → ∃ x, xs[k]? = some x ∧ toTy t x = some y
 | t, [], ys, h => by rw [toTys] at h; cases h; exact ⟨rfl, fun k y hk => by simp at hk⟩
 | t, x :: r, ys, h => by
  rw [toTys] at h
  split at h
  ·rename_i y q h1 h2
   cases h
   obtain ⟨h3, h4⟩ := toTys_get h2
   refine ⟨by simp [h3], fun k z hk => ?_⟩
   cases k with
   | zero => simp at hk; subst hk; exact ⟨x, rfl, h1⟩
   | succ k => simp at hk ⊢; exact h4 k z hk
  ·cases h
theorem writeO_ok {o o' : Obj} {l : Loc} {b i off : Nat} {v : AV} {u : Value} {t : TypeId} (hs : ObjAt C w o l) (hb : l.b = some b) (hi : i < l.n) (hw : writeO o i off v = some o') (hv : RepA C w v u) (ht : isTop v = false) (hsz : sizeOf? P t = some (cellsA v).length) :
  ∃ cur', (storeVar t ⟨b, i * l.g + off, none⟩ u).run P w = .ok () (w.setRow b cur') ∧ o'.e = l.e ∧ o'.g = l.g ∧ lenO o' = l.n ∧ cur'.size = l.cap * l.g ∧ ElAt C w o'.el l.g cur' := by
 obtain ⟨cur, hbk, hnc, hcm, hcs, hel⟩ : ∃ cur, w.heap[b]? = some (.cells cur l.e (0, 0)) ∧ l.n ≤ l.cap ∧ l.cap ≤ maxLen ∧ cur.size = l.cap * l.g ∧ ElAt C w o.el l.g cur := by
  rcases hs.at_ with ⟨h1, _⟩ | ⟨b', cur, h1, h2⟩
  ·rw [h1] at hb; cases hb
  ·rw [h1] at hb; cases hb; exact ⟨cur, h2⟩
 have hi' : i < lenO o := by rw [hs.n]; exact hi
 obtain ⟨us, h1, h2, h3, h4, h5⟩ := elem_cells hel hi'
 have hds := RepL_cells ht hv
 have hd1 := cells_one ht hv
 have hdl : u.cells.toList.length = (cellsA v).length := RepL_len hds
 generalize hdse : u.cells.toList = ds at hds hd1 hdl
 have hrun : i * l.g + off + ds.length ≤ cur.size → (storeVar t ⟨b, i * l.g + off, none⟩ u).run P w = .ok () (w.setRow b (setCells cur.toList (i * l.g + off) ds).toArray) := by
  intro hle
  have h6 := run_storeCells_at (P := P) b (i * l.g + off) l.e ds 0 cur w hbk (by simpa using hle) hd1
  have hsize : u.cells.size = (cellsA v).length := by rw [← hdl, ← hdse]; simp
  simp only [storeVar, Sem.run_bind, run_sizeOf hsz, Result.andThen_ok, hsize, ne_eq, not_true_eq_false, if_false, hdse]
  rw [h6]
  rfl
 have hsize' : i * l.g + off + ds.length ≤ cur.size → (setCells cur.toList (i * l.g + off) ds).toArray.size = l.cap * l.g := by
  intro hle
  rw [List.size_toArray, setCells_len (by simpa using hle), Array.length_toList, hcs]
 have hin : off + ds.length ≤ l.g → i * l.g + off + ds.length ≤ cur.size := by
  intro hle
  have : (i + 1) * l.g ≤ l.cap * l.g := Nat.mul_le_mul_right _ (by omega)
  rw [Nat.succ_mul] at this
  omega
 have mixed : ∀ {o2 : Obj}, (match Nat.ble (off + (cellsA v).length) o.g with
   | true => some { o with el := .mix ((elsA o.el).set i (match Nat.beq o.g 1 && Nat.beq (cellsA v).length 1 with | true => v | false => .agg (setCells (cellsA ((elsA o.el).getD i .top)) off (cellsA v)))) }
   | false => match Nat.beq i 0 && Nat.beq off 0 && Nat.beq (cellsA v).length (lenO o * o.g) with
    | true => some { o with el := .mix ((chunk o.g (lenO o) (cellsA v)).map one) }
    | false => none) = some o2 →
   ∃ cur', (storeVar t ⟨b, i * l.g + off, none⟩ u).run P w = .ok () (w.setRow b cur') ∧ o2.e = l.e ∧ o2.g = l.g ∧ lenO o2 = l.n ∧ cur'.size = l.cap * l.g ∧ ElAt C w o2.el l.g cur' := by
  intro o2 ho2
  split at ho2
  ·rename_i hle
   rw [Nat.ble_eq, hs.g, ← hdl] at hle
   cases ho2
   refine ⟨_, hrun (hin hle), hs.e, hs.g, ?_, hsize' (hin hle), ?_⟩
   ·show ((elsA o.el).set i _).length = _
    rw [List.length_set, elsA_len, hs.n]
   ·refine ElAt_set_mix (us' := setCells us off ds) (ElAt_mixed hel) (within_other (hin hle) hle) ?_ (by rw [setCells_len (by omega), h2]) (h3.setCells hd1 off) (within_holds (hin hle) h2 hle h4)
    have hE : (elsA o.el).getD i .top = elemE o.el i := by
     rw [List.getD_eq_getElem?_getD, elemE_els o.el i (by rw [elsA_len]; exact hi')]
     rfl
    rw [hE]
    split
    ·rename_i hg1
     rw [Bool.and_eq_true] at hg1
     have hn1 := Nat.eq_of_beq_eq_true hg1.2
     have hg1 := Nat.eq_of_beq_eq_true hg1.1
     rw [hs.g] at hg1
     have hpos : 0 < ds.length := by omega
     have : setCells us off ds = ds := by
      unfold setCells
      rw [show off = 0 by omega, List.take_zero, List.nil_append, List.drop_of_length_le (by omega), List.append_nil]
     rw [this]
     exact hds
    ·exact RepL_setCells h1 hds off
  ·split at ho2
   ·rename_i he
    cases ho2
    simp only [Bool.and_eq_true] at he
    obtain rfl := Nat.eq_of_beq_eq_true he.1.1
    obtain rfl := Nat.eq_of_beq_eq_true he.1.2
    have hn := Nat.eq_of_beq_eq_true he.2
    have hcap : lenO o * o.g ≤ l.cap * l.g := by rw [hs.n, hs.g]; exact Nat.mul_le_mul_right _ hnc
    have hle : 0 * l.g + 0 + ds.length ≤ cur.size := by rw [hdl, hn, hcs]; omega
    refine ⟨_, hrun hle, hs.e, hs.g, ?_, hsize' hle, ?_⟩
    ·show ((chunk o.g (lenO o) (cellsA v)).map one).length = _
     rw [List.length_map, chunk_len, hs.n]
    ·intro j x hj
     rw [List.getElem?_map, chunk_get] at hj
     by_cases hjn : j < lenO o
     ·rw [if_pos hjn] at hj
      cases hj
      have hjg : (j + 1) * l.g ≤ lenO o * l.g := Nat.mul_le_mul_right _ hjn
      rw [Nat.succ_mul] at hjg
      have hdl2 : ds.length = lenO o * l.g := by rw [hdl, hn, hs.g]
      refine ⟨(ds.drop (j * l.g)).take l.g, ?_, ?_, (hd1.drop _).take _, ?_⟩
      ·rw [hs.g]
       exact one_rep (RepL_take _ (RepL_drop _ hds)) ((hd1.drop _).take _)
      ·rw [List.length_take, List.length_drop]; omega
      ·intro k z hk
       rw [List.getElem?_take] at hk
       split at hk
       ·rw [List.getElem?_drop] at hk
        rw [List.getElem?_toArray, setCells_get (by simpa using hle), if_pos (by omega), ← hk]
        congr 1
        omega
       ·cases hk
     ·rw [if_neg hjn] at hj; cases hj
   ·cases ho2
 unfold writeO at hw
 dsimp only at hw
 split at hw
 ·rename_i ty xs hel2
  have hT := h5 ty xs hel2
  have hel' : ElAt C w (.data ty xs) l.g cur := by rw [← hel2]; exact hel
  have hlen : xs.length = l.n := by rw [← hs.n]; unfold lenO; rw [hel2]
  split at hw
  ·rename_i hle0
   have hle := hle0
   rw [Nat.ble_eq, hs.g, ← hdl] at hle
   have mixed' : (match Nat.ble (off + (cellsA v).length) o.g with
    | true => some { o with el := .mix ((elsA o.el).set i (match Nat.beq o.g 1 && Nat.beq (cellsA v).length 1 with | true => v | false => .agg (setCells (cellsA ((elsA o.el).getD i .top)) off (cellsA v)))) }
    | false => match Nat.beq i 0 && Nat.beq off 0 && Nat.beq (cellsA v).length (lenO o * o.g) with
     | true => some { o with el := .mix ((chunk o.g (lenO o) (cellsA v)).map one) }
     | false => none) = some { o with el := .mix ((elsA o.el).set i (match Nat.beq o.g 1 && Nat.beq (cellsA v).length 1 with | true => v | false => .agg (setCells (cellsA ((elsA o.el).getD i .top)) off (cellsA v)))) } := by rw [hle0]
   split at hw
   ·rename_i hf
    simp only [Bool.and_eq_true] at hf
    split at hw
    ·rename_i y _ hy
     cases hw
     obtain rfl := Nat.eq_of_beq_eq_true hf.1
     have hg := Nat.eq_of_beq_eq_true hf.2
     refine ⟨_, hrun (hin hle), hs.e, hs.g, by show (xs.set i y).length = _; rw [List.length_set, hlen], hsize' (hin hle), ?_⟩
     refine ElAt_set_data (us' := setCells us 0 ds) hel' (within_other (hin hle) hle) ?_ (within_holds (hin hle) h2 hle h4)
     have : setCells us 0 ds = ds := by
      unfold setCells
      rw [List.take_zero, List.nil_append, List.drop_of_length_le (by rw [h2, hdl, hg, hs.g]; omega), List.append_nil]
     rw [this]
     exact toTy_rep hy hds hd1
    ·exact mixed (by rw [← hw]; exact mixed')
   ·split at hw
    ·rename_i y _ hy
     cases hw
     refine ⟨_, hrun (hin hle), hs.e, hs.g, by show (xs.set i y).length = _; rw [List.length_set, hlen], hsize' (hin hle), ?_⟩
     refine ElAt_set_data (us' := setCells us off ds) hel' (within_other (hin hle) hle) ?_ (within_holds (hin hle) h2 hle h4)
     refine toTy_rep hy ?_ (h3.setCells hd1 off)
     exact RepL_setCells (RepT_cellsD (x := ⟨ty, xs.getD i (zeroT ty)⟩) hT) hds off
    ·exact mixed (by rw [← hw]; exact mixed')
  ·rename_i hle0
   split at hw
   ·rename_i he0
    have he := he0
    have hlo : lenO o = xs.length := by unfold lenO; rw [hel2]
    split at hw
    ·rename_i ys hys
     cases hw
     simp only [Bool.and_eq_true] at he
     obtain rfl := Nat.eq_of_beq_eq_true he.1.1
     obtain rfl := Nat.eq_of_beq_eq_true he.1.2
     have hn := Nat.eq_of_beq_eq_true he.2
     obtain ⟨h6, h7⟩ := toTys_get hys
     rw [List.length_map, chunk_len] at h6
     have hcap : xs.length * o.g ≤ l.cap * l.g := by rw [hlen, hs.g]; exact Nat.mul_le_mul_right _ hnc
     have hle : 0 * l.g + 0 + ds.length ≤ cur.size := by rw [hdl, hn, hcs]; omega
     refine ⟨_, hrun hle, hs.e, hs.g, by show ys.length = _; rw [h6, hlen], hsize' hle, hel'.1, ?_⟩
     intro j y hj
     obtain ⟨x, hx, hxy⟩ := h7 j y hj
     rw [List.getElem?_map, chunk_get] at hx
     by_cases hjn : j < xs.length
     ·rw [if_pos hjn] at hx
      cases hx
      have hjg : (j + 1) * l.g ≤ xs.length * l.g := Nat.mul_le_mul_right _ hjn
      rw [Nat.succ_mul] at hjg
      have hdl2 : ds.length = xs.length * l.g := by rw [hdl, hn, hs.g]
      refine ⟨(ds.drop (j * l.g)).take l.g, ?_, ?_⟩
      ·refine toTy_rep hxy ?_ ((hd1.drop _).take _)
       rw [hs.g]
       exact one_rep (RepL_take _ (RepL_drop _ hds)) ((hd1.drop _).take _)
      ·intro k z hk
       rw [List.getElem?_take] at hk
       split at hk
       ·rw [List.getElem?_drop] at hk
        rw [List.getElem?_toArray, setCells_get (by simpa using hle), if_pos (by omega), ← hk]
        congr 1
        omega
       ·cases hk
     ·rw [if_neg hjn] at hx; cases hx
    ·refine mixed ?_
     rw [← hw, hle0, hlo, he0]
   ·cases hw
 ·exact mixed hw
end
end AX
namespace AX
def OpOk (P : Program) (C : Ctx) (hp : Heap) (w : World) (me : Id) (e : Eff) (s : Sem Next) : Prop :=
 ∃ nx w' C', s.run P w = .ok nx w' ∧ ((∃ v, nx = .value v ∧ RepA C' w' e.val v) ∨ (nx = .skip ∧ e.val = .undef)) ∧ HSim C' (hget (hsets (hdels hp e.del) e.set)) w' ∧
  Ext C (hget hp) w C' (hget (hsets (hdels hp e.del) e.set)) w' ∧ ∀ id l, C'.m id = some l → C.m id = some l ∨ id = me
section
variable {P : Program} {C : Ctx} {w : World} {hp : Heap} {me : Id}
theorem OpOk.val (hs : HSim C (hget hp) w) {b : Bool} {x : AV} {v : Value} {s : Sem Value} (h : s.run P w = .ok v w) (hx : RepA C w x v) : OpOk P C hp w me ⟨b, x, [], []⟩ (do pure (.value (← s))) :=
 ⟨.value v, w, C, by simp [h], .inl ⟨v, rfl, hx⟩, hs, Ext.refl _ _ _, fun _ _ hl => .inl hl⟩
theorem OpOk.val' (hs : HSim C (hget hp) w) {b : Bool} {x : AV} {v : Value} {s : Sem Next} (h : s.run P w = .ok (.value v) w) (hx : RepA C w x v) : OpOk P C hp w me ⟨b, x, [], []⟩ s :=
 ⟨.value v, w, C, h, .inl ⟨v, rfl, hx⟩, hs, Ext.refl _ _ _, fun _ _ hl => .inl hl⟩
theorem OpOk.valw (hs : HSim C (hget hp) w) {b : Bool} {x : AV} {v : Value} {s : Sem Value} {w' : World} (h : s.run P w = .ok v w') (hh : w'.heap = w.heap) (h1 : w'.os = w.os) (h2 : w'.tape = w.tape) (h3 : w'.output = w.output) (hx : RepA C w x v) : OpOk P C hp w me ⟨b, x, [], []⟩ (do pure (.value (← s))) :=
 ⟨.value v, w', C, by simp [h], .inl ⟨v, rfl, RepA_mono (Ext.le hs (Ext.same C _ hh h1 h2 h3)) _ _ hx⟩, hs.same hh, Ext.same C _ hh h1 h2 h3, fun _ _ hl => .inl hl⟩
theorem hset_form (hp : Heap) (me : Id) (o : Obj) (i : Id) : hget (hset hp me o) i = some o ∧ i = me ∨ i ≠ me ∧ hget (hset hp me o) i = hget hp i := by
 rw [hget_hset]
 by_cases hi : i = me
 ·exact .inl ⟨by simp [hi], hi⟩
 ·exact .inr ⟨hi, by simp [hi]⟩
theorem OpOk.new (hs : HSim C (hget hp) w) (hf : C.m me = none) {b : Bool} {x : AV} {v : Value} {s : Sem Value} {w' : World} {ob : Obj} {cur : Array Value} (l : Loc) (hlb : l.b = some w.heap.size)
  (h : s.run P w = .ok v w') (hw : w'.heap = w.heap.push (.cells cur l.e (0, 0))) (h1 : w'.os = w.os) (h2 : w'.tape = w.tape) (h3 : w'.output = w.output)
  (he : ob.e = l.e) (hg : ob.g = l.g) (hn : lenO ob = l.n) (hp0 : 0 < l.g) (hc : l.n ≤ l.cap) (hm : l.cap ≤ maxLen) (hsz : cur.size = l.cap * l.g) (hel : ElAt C w ob.el l.g cur)
  (hx : RepA (C.add me l) w' x v) : OpOk P C hp w me ⟨b, x, [], [(me, ob)]⟩ (do pure (.value (← s))) := by
 refine ⟨.value v, w', C.add me l, by simp [h], .inl ⟨v, rfl, hx⟩, ?_, ?_, ?_⟩
 ·exact HSim.new hs hf hlb hw (hset_form hp me ob) he hg hn hp0 hc hm hsz hel
 ·exact Ext.new hs hf hlb hw h1 h2 h3 (hset_form hp me ob)
 ·intro id l2 hl2
  rcases add_inv hl2 with ⟨h4, _⟩ | ⟨_, h4⟩
  ·exact .inr h4
  ·exact .inl h4
theorem RepA_newPtr {l : Loc} {w' : World} (hlb : l.b = some w.heap.size) (hn : 0 < l.n) : RepA (C.add me l) w' (.ptr me 0 0) (.pointer (some ⟨w.heap.size, 0, none⟩)) :=
 RepA_ptr.2 ⟨l, w.heap.size, add_self C me l, hlb, hn, by simp⟩
theorem RepA_newRef {l : Loc} {w' : World} (hlb : l.b = some w.heap.size) (hc : l.n ≤ l.cap) : RepA (C.add me l) w' (.ref me) (.slice (some ⟨w.heap.size, 0, none⟩) l.n l.cap) :=
 RepA_ref.2 ⟨l, add_self C me l, .inr ⟨_, _, hlb, rfl, hc, Nat.le_refl _⟩⟩
theorem intoEl_at {t : TypeId} {g : Nat} {xs : List AV} {cur : Array Value} (h : ElAt C w (.mix xs) g cur) : ElAt C w (intoEl P t g xs) g cur := by
 unfold intoEl
 split
 ·rename_i ty _
  split
  ·rename_i ys hg hys
   refine ⟨Nat.eq_of_beq_eq_true hg, fun j y hj => ?_⟩
   obtain ⟨_, h7⟩ := toTys_get hys
   obtain ⟨x, hx, hxy⟩ := h7 j y hj
   obtain ⟨us, h1, h2, h3, h4⟩ := h j x hx
   exact ⟨us, toTy_rep hxy h1 h3, h4⟩
  ·exact h
 ·exact h
theorem intoVar_at {t : TypeId} {g : Nat} {xs : List AV} {cur : Array Value} (h : ElAt C w (.mix xs) g cur) : ElAt C w (intoVar P t g xs) g cur := by
 unfold intoVar
 split
 ·exact h
 ·exact intoEl_at h
theorem intoEl_len {t : TypeId} {g : Nat} {xs : List AV} {e : TypeId} {g' : Nat} : lenO ⟨e, g', intoEl P t g xs⟩ = xs.length := by
 unfold lenO intoEl
 dsimp only
 split
 ·rename_i ty ys heq
  split at heq
  ·split at heq
   ·rename_i ys2 hg hys
    cases heq
    exact (toTys_get hys).1
   ·cases heq
  ·cases heq
 ·rename_i ys heq
  split at heq
  ·split at heq
   ·cases heq
   ·cases heq; rfl
  ·cases heq; rfl
theorem intoVar_len {t : TypeId} {g : Nat} {xs : List AV} {e : TypeId} {g' : Nat} : lenO ⟨e, g', intoVar P t g xs⟩ = xs.length := by
 unfold intoVar
 split
 ·rfl
 ·exact intoEl_len
theorem virtD_ok {v : Value} {x : AV} (hx : RepA C w x v) : RepA C w (virtD x) v := by
 unfold virtD
 split
 ·exact RepA_bv.2 (RepA_sl.1 hx)
 ·exact hx
theorem RepL_virtD : ∀ {xs : List AV} {cs : List Value}, RepL C w xs cs → RepL C w (xs.map virtD) cs
 | [], cs, h => h
 | x :: r, cs, h => by
  obtain ⟨u, q, h1, h2, h3⟩ := RepL_cons.1 h
  exact RepL_cons.2 ⟨u, q, h1, virtD_ok h2, RepL_virtD h3⟩
theorem RepL_lone {x : AV} {cs : List Value} (h : RepL C w (cellsA x) cs) : RepL C w (cellsA (lone x)) cs := by
 unfold lone
 split
 ·exact h
 ·exact h
 ·exact h
 ·exact RepL_virtD h
 ·exact h
theorem varObj_ok {t : TypeId} {x : AV} {ob : Obj} {u : Value} (h : varObj P t x = some ob) (ht : isTop x = false) (hx : RepA C w x u) :
  ob.e = t ∧ 0 < ob.g ∧ 0 < lenO ob ∧ lenO ob ≤ maxLen ∧ u.cells.size = lenO ob * ob.g ∧ ElAt C w ob.el ob.g u.cells := by
 have hds := RepL_cells ht hx
 have hd1 := cells_one ht hx
 have hdl : u.cells.size = (cellsA x).length := by have := RepL_len hds; simpa using this
 unfold varObj at h
 split at h
 ·rename_i n e _
  split at h
  ·rename_i g _
   split at h
   ·rename_i hb
    cases h
    simp only [Bool.and_eq_true, Nat.ble_eq, Nat.blt_eq] at hb
    have hn := Nat.eq_of_beq_eq_true hb.1.1.1
    have hln : lenO ⟨t, g, intoVar P e g ((chunk g n (cellsA x)).map one)⟩ = n := by rw [intoVar_len, List.length_map, chunk_len]
    refine ⟨rfl, hb.1.1.2, by rw [hln]; exact hb.1.2, by rw [hln]; simp only [maxLen]; omega, by rw [hln, hdl, hn], intoVar_at ?_⟩
    intro j y hj
    rw [List.getElem?_map, chunk_get] at hj
    by_cases hjn : j < n
    ·rw [if_pos hjn] at hj
     cases hj
     have hjg : (j + 1) * g ≤ n * g := Nat.mul_le_mul_right _ hjn
     rw [Nat.succ_mul] at hjg
     refine ⟨(u.cells.toList.drop (j * g)).take g, one_rep (RepL_take _ (RepL_drop _ hds)) ((hd1.drop _).take _), ?_, (hd1.drop _).take _, ?_⟩
     ·rw [List.length_take, List.length_drop, Array.length_toList]; omega
     ·intro k z hk
      rw [List.getElem?_take] at hk
      split at hk
      ·rw [List.getElem?_drop] at hk; simpa using hk
      ·cases hk
    ·rw [if_neg hjn] at hj; cases hj
   ·cases h
  ·cases h
 ·split at h
  ·rename_i g _
   split at h
   ·rename_i hb
    cases h
    simp only [Bool.and_eq_true, Nat.blt_eq] at hb
    have hn := Nat.eq_of_beq_eq_true hb.1
    have hln : lenO ⟨t, g, intoVar P t g [lone x]⟩ = 1 := by rw [intoVar_len]; rfl
    refine ⟨rfl, hb.2, by rw [hln]; omega, by rw [hln]; simp only [maxLen]; omega, by rw [hln, hdl, hn, Nat.one_mul], intoVar_at ?_⟩
    intro j y hj
    cases j with
    | zero =>
     simp at hj
     subst hj
     exact ⟨u.cells.toList, RepL_lone hds, by rw [Array.length_toList, hdl, hn], hd1, fun k z hk => by simpa using hk⟩
    | succ j => simp at hj
   ·cases h
  ·cases h
 ·cases h
theorem run_newVar {t : TypeId} {u : Value} : (newVar t u).run P w = .ok ⟨w.heap.size, 0, none⟩ { w with heap := w.heap.push (.cells u.cells t) } := by
 simp [newVar, newRow]
theorem zeroV_ok {t : TypeId} {z : Value} (h : zeroV P t = some z) : (zeroValue t).run P w = .ok z w ∧ OneCells z.cells.toList := by
 unfold zeroV at h
 split at h
 ·rename_i i hi
  split at h
  ·rename_i z2 hz
   split at h
   ·rename_i hall
    cases h
    exact ⟨by simp [zeroValue, typeInfo, hi, hz], fun u hu => by simpa using List.all_eq_true.1 hall u hu⟩
   ·cases h
  ·cases h
 ·cases h
theorem RepL_ofV : ∀ (cs : List Value), RepL C w (cs.map ofV) cs
 | [] => RepL_nil.2 rfl
 | c :: r => RepL_cons.2 ⟨c, r.map (fun x => x), by simp, ofV_rep c, by simpa using RepL_ofV r⟩
theorem zeroA_ok {t : TypeId} {x : AV} (h : zeroA P t = some x) : ∃ z, (zeroValue t).run P w = .ok z w ∧ RepA C w x z := by
 unfold zeroA at h
 split at h
 ·rename_i cs hz
  cases h
  obtain ⟨h1, h2⟩ := zeroV_ok (w := w) hz
  refine ⟨_, h1, ?_⟩
  have := mkA_rep (C := C) (w := w) (RepL_ofV cs.toList) h2
  simpa using this
 ·rename_i z _ hz
  cases h
  exact ⟨z, (zeroV_ok hz).1, ofV_rep z⟩
 ·cases h
theorem alloc_ok (hs : HSim C (hget hp) w) (hf : C.m me = none) {t : TypeId} {x : AV} {ob : Obj} (hz : zeroA P t = some x) (ht : isTop x = false) (ho : varObj P t x = some ob) :
  OpOk P C hp w me ⟨true, .ptr me 0 0, [], [(me, ob)]⟩ (do pure (.value (← Instr.alloc t true (.tuple #[])))) := by
 obtain ⟨z, h1, h2⟩ := zeroA_ok (P := P) (C := C) (w := w) hz
 obtain ⟨h3, h4, hl, h5, h6, h7⟩ := varObj_ok ho ht h2
 have hrun : (Instr.alloc t true (.tuple #[])).run P w = .ok (.pointer (some ⟨w.heap.size, 0, none⟩)) { w with heap := w.heap.push (.cells z.cells t) } := by
  simp [Instr.alloc, h1, run_newVar]
 exact OpOk.new hs hf ⟨some w.heap.size, lenO ob, lenO ob, ob.g, t⟩ rfl hrun rfl rfl rfl rfl h3 rfl rfl h4 (Nat.le_refl _) h5 h6 h7 (RepA_newPtr rfl hl)
theorem box_ok (hs : HSim C (hget hp) w) (hf : C.m me = none) {t : TypeId} {x : AV} {ob : Obj} {u : Value} (hx : RepA C w x u) (ht : isTop x = false) (ho : varObj P t x = some ob) :
  OpOk P C hp w me ⟨true, .ptr me 0 0, [], [(me, ob)]⟩ (do pure (.value (← Instr.box t u))) := by
 obtain ⟨h3, h4, hl, h5, h6, h7⟩ := varObj_ok ho ht hx
 have hrun : (Instr.box t u).run P w = .ok (.pointer (some ⟨w.heap.size, 0, none⟩)) { w with heap := w.heap.push (.cells u.cells t) } := by
  simp [Instr.box, run_newVar]
 exact OpOk.new hs hf ⟨some w.heap.size, lenO ob, lenO ob, ob.g, t⟩ rfl hrun rfl rfl rfl rfl h3 rfl rfl h4 (Nat.le_refl _) h5 h6 h7 (RepA_newPtr rfl hl)
end
end AX
namespace AX
section
variable {P : Program} {C : Ctx} {w : World} {hp : Heap} {me : Id}
theorem foldl_set (off : Nat) : ∀ (ds : List Value) (k : Nat) (cells : Array Value), off + k + ds.length ≤ cells.size →
  ((ds.zipIdx k).foldl (fun (cs : Array Value) (p : Value × Nat) => cs.setIfInBounds (off + p.2) p.1) cells).toList = setCells cells.toList (off + k) ds
 | [], k, cells, h => by simp [setCells]
 | d :: r, k, cells, h => by
  simp only [List.length_cons] at h
  rw [List.zipIdx_cons, List.foldl_cons, foldl_set off r (k + 1) _ (by simp; omega)]
  apply List.ext_getElem?
  intro j
  rw [setCells_get (by simp; omega), setCells_get (by simp; omega)]
  simp only [Array.toList_setIfInBounds, List.getElem?_set, List.length_cons, Array.length_toList]
  by_cases h1 : off + k + 1 ≤ j ∧ j < off + k + 1 + r.length
  ·rw [if_pos (by omega), if_pos (by omega), show j - (off + k) = (j - (off + (k + 1))) + 1 by omega, List.getElem?_cons_succ]
  ·rw [if_neg (by omega)]
   by_cases h2 : off + k = j
   ·rw [if_pos h2, if_pos (by omega), if_pos (by omega), show j - (off + k) = 0 by omega, List.getElem?_cons_zero]
   ·rw [if_neg h2, if_neg (by omega)]
def PartsR (C : Ctx) (w : World) : List (Nat × AV) → List (Nat × Value) → Prop
 | [], q => q = []
 | p :: r, q => ∃ v s, q = (p.1, v) :: s ∧ RepA C w p.2 v ∧ PartsR C w r s
theorem placed_ok (place : Nat → Option (Nat × Nat)) : ∀ {parts : List (Nat × AV)} {vs : List (Nat × Value)} {xs ys : List AV} {cells : Array Value}, placed xs parts place = some ys → PartsR C w parts vs → RepL C w xs cells.toList → OneCells cells.toList →
  ∃ cells' : Array Value, Instr.fill place cells vs = some cells' ∧ RepL C w ys cells'.toList ∧ OneCells cells'.toList
 | [], vs, xs, ys, cells, h, hp, hx, h1 => by
  rw [placed] at h
  cases h
  rw [PartsR] at hp
  subst hp
  exact ⟨cells, rfl, hx, h1⟩
 | (i, x) :: r, vs, xs, ys, cells, h, hp, hx, h1 => by
  rw [PartsR] at hp
  obtain ⟨v, s, rfl, hv, hr⟩ := hp
  rw [placed] at h
  split at h
  ·rename_i off n hpl
   split at h
   ·rename_i hb
    simp only [Bool.and_eq_true, Bool.not_eq_true', Nat.ble_eq] at hb
    have hn := Nat.eq_of_beq_eq_true hb.1.2
    have hds := RepL_cells hb.1.1 hv
    have hd1 := cells_one hb.1.1 hv
    have hdl : v.cells.size = n := by have := RepL_len hds; rw [← hn, ← this]; simp
    have hcl : cells.size = xs.length := by have := RepL_len hx; simpa using this
    have hset : (v.cells.zipIdx.foldl (fun cs (x : Value × Nat) => match x with | (c, j) => cs.setIfInBounds (off + j) c) cells).toList = setCells cells.toList off v.cells.toList := by
     have := foldl_set off v.cells.toList 0 cells (by rw [Array.length_toList, hdl, hcl]; omega)
     rw [← Array.foldl_toList, Array.toList_zipIdx]
     exact this
    have ih := placed_ok place (parts := r) (vs := s) (cells := v.cells.zipIdx.foldl (fun cs (x : Value × Nat) => match x with | (c, j) => cs.setIfInBounds (off + j) c) cells) h hr (by rw [hset]; exact RepL_setCells hx hds off) (by rw [hset]; exact h1.setCells hd1 off)
    obtain ⟨cells', h2, h3⟩ := ih
    refine ⟨cells', ?_, h3⟩
    rw [Instr.fill]
    simp only [hpl]
    rw [if_neg (by simp [hdl, hcl]; omega)]
    exact h2
   ·cases h
  ·cases h
theorem PartsR_eval {sl : List AV} {a : Act} (hsl : Slots C w sl a) : ∀ (ps : List (Nat × Operand)), PartsR C w (partsOf sl ps) (ps.map fun p => (p.1, a.eval p.2))
 | [] => by simp [partsOf, PartsR]
 | p :: r => by
  simp only [partsOf, List.map_cons, PartsR]
  exact ⟨_, _, rfl, hsl.eval p.2, PartsR_eval hsl r⟩
theorem parts_list {a : Act} (ps : Array (Nat × Operand)) : (ps.map fun (i, x) => (i, a.eval x)).toList = ps.toList.map fun p => (p.1, a.eval p.2) := by
 rw [Array.toList_map]
theorem zeroV_info {t : TypeId} {z : Value} (h : zeroV P t = some z) : ∃ i, P.info? t = some i ∧ i.zero = some z := by
 unfold zeroV at h
 split at h
 ·rename_i i hi
  split at h
  ·rename_i z2 hz
   split at h
   ·cases h; exact ⟨i, hi, hz⟩
   ·cases h
  ·cases h
 ·cases h
theorem build_struct {t : TypeId} {z : Value} {fs : Array Field} {pl : List (Nat × Nat)} {cs : List AV} {sl : List AV} {a : Act} {ps : Array (Nat × Operand)} (hsl : Slots C w sl a) (hz : zeroV P t = some z) (hu : P.underlying t = some (.struct fs))
  (hpl : fs.toList.mapM (fun f => (P.info? f.type).map fun i => (f.offset, i.size)) = some pl) (h : placed (z.cells.toList.map ofV) (partsOf sl ps.toList) (fun i => pl[i]?) = some cs) :
  ∃ v, (Instr.build t (ps.map fun (i, x) => (i, a.eval x))).run P w = .ok v w ∧ RepA C w (mkA cs) v := by
 obtain ⟨i, hi, hz2⟩ := zeroV_info hz
 obtain ⟨cells', h1, h2, h3⟩ := placed_ok (C := C) (w := w) _ h (PartsR_eval hsl ps.toList) (RepL_ofV z.cells.toList) (zeroV_ok (w := w) hz).2
 refine ⟨.agg cells', run_build w t _ cells' ?_, by simpa using mkA_rep h2 h3⟩
 unfold Program.built
 simp only [hi, hu, hz2, hpl, parts_list]
 simpa using h1
theorem build_array {t e : TypeId} {n g : Nat} {z : Value} {cs : List AV} {sl : List AV} {a : Act} {ps : Array (Nat × Operand)} (hsl : Slots C w sl a) (hz : zeroV P t = some z) (hu : P.underlying t = some (.array n e)) (hg : sizeOf? P e = some g)
  (h : placed (z.cells.toList.map ofV) (partsOf sl ps.toList) (fun i => some (i * g, g)) = some cs) :
  ∃ v, (Instr.build t (ps.map fun (i, x) => (i, a.eval x))).run P w = .ok v w ∧ RepA C w (mkA cs) v := by
 obtain ⟨i, hi, hz2⟩ := zeroV_info hz
 obtain ⟨cells', h1, h2, h3⟩ := placed_ok (C := C) (w := w) _ h (PartsR_eval hsl ps.toList) (RepL_ofV z.cells.toList) (zeroV_ok (w := w) hz).2
 refine ⟨.agg cells', run_build w t _ cells' ?_, by simpa using mkA_rep h2 h3⟩
 unfold sizeOf? at hg
 split at hg
 ·rename_i ie hie
  cases hg
  unfold Program.built
  simp only [hi, hu, hz2, hie, parts_list]
  exact h1
 ·cases hg
end
end AX
namespace AX
def Ctx.freeL (C : Ctx) (l : List Id) : Ctx := { C with ok := fun b => C.ok b ∨ ∃ id ∈ l, ∃ x, C.m id = some x ∧ x.b = some b }
section
variable {P : Program} {C : Ctx} {w : World} {hp : Heap} {me : Id}
theorem le_freeL (l : List Id) : Le C w (C.freeL l) w := ⟨(fun _ _ h => h), fun _ _ hx => hx, rfl, fun _ hb => .inl hb, fun _ _ => rfl⟩
theorem hdels_sub (l : List Id) (i : Id) (o : Obj) (h : hget (hdels hp l) i = some o) : hget hp i = some o ∧ i ∉ l := by
 rw [hget_hdels] at h
 by_cases hi : i ∈ l
 ·rw [if_pos hi] at h; cases h
 ·rw [if_neg hi] at h; exact ⟨h, hi⟩
theorem HSim.freeL (hs : HSim C (hget hp) w) {l : List Id} (hl : ∀ id ∈ l, ∃ o, hget hp id = some o) : HSim (C.freeL l) (hget (hdels hp l)) w := by
 have hsub := fun i o hh => (hdels_sub (hp := hp) l i o hh).1
 refine ⟨fun i o hi => ?_, fun i i' o o' x x' b h1 h2 => hs.inj i i' o o' x x' b (hsub _ _ h1) (hsub _ _ h2), fun i o x b hi hx hb hrd => ?_, fun b hb => ?_⟩
 ·obtain ⟨x, h3, h4⟩ := hs.obj i o (hsub _ _ hi)
  exact ⟨x, h3, h4.mono (le_freeL l) (fun _ _ => rfl)⟩
 ·rcases hrd with (h3 | ⟨id, hid, x2, h4, h5⟩) | h3
  ·exact hs.sep i o x b (hsub _ _ hi) hx hb (.inl h3)
  ·obtain ⟨o2, ho2⟩ := hl id hid
   obtain rfl := hs.inj i id o o2 x x2 b (hsub _ _ hi) ho2 hx h4 hb h5
   exact (hdels_sub l i o hi).2 hid
  ·exact hs.sep i o x b (hsub _ _ hi) hx hb (.inr h3)
 ·rcases hb with (h3 | ⟨id, hid, x2, h4, h5⟩) | h3
  ·exact hs.live b (.inl h3)
  ·obtain ⟨o2, ho2⟩ := hl id hid
   obtain ⟨x3, h6, h7⟩ := hs.obj id o2 ho2
   obtain rfl : x3 = x2 := Option.some.inj (h6.symm.trans h4)
   rcases h7.at_ with ⟨h8, _⟩ | ⟨b', cur, h8, h9, _⟩
   ·rw [h8] at h5; cases h5
   ·rw [h8] at h5; cases h5; exact (Array.getElem?_eq_some_iff.1 h9).1
  ·exact hs.live b (.inr h3)
theorem Ext.freeL {l : List Id} (hl : ∀ id ∈ l, ∃ o, hget hp id = some o) : Ext C (hget hp) w (C.freeL l) (hget (hdels hp l)) w :=
 ⟨rfl, rfl, rfl, rfl, Nat.le_refl _, fun _ _ hx => hx, rfl, fun _ hb => .inl hb, fun b hb => hb.imp (fun h => h) (fun ⟨id, hid, x, h1, h2⟩ => .inr (let ⟨o, ho⟩ := hl id hid; ⟨id, o, x, ho, h1, h2⟩)), fun _ _ _ => rfl,
  fun b ⟨i, o', l2, h1, h2, h3⟩ => .inr ⟨i, o', l2, (hdels_sub l i o' h1).1, h2, h3⟩⟩
theorem row_of_obj {o : Obj} {x : Loc} {ty : Ty} {xs : List ty.T} {v : Value} (ho : ObjAt C w o x) (hel : o.el = .data ty xs) {C' : Ctx} (hle : Le C w C' w) {okr : Nat → Prop} (hok : ∀ b, x.b = some b → okr b)
  (hv : (x.b = none ∧ x.n = 0 ∧ ∃ A, v = .slice A 0 0) ∨ ∃ b c, x.b = some b ∧ v = .slice (some ⟨b, 0, none⟩) x.n c ∧ x.n ≤ c ∧ c ≤ x.cap) : RowT w okr C'.ok ty xs v := by
 have hn : xs.length = x.n := by rw [← ho.n]; unfold lenO; rw [hel]
 rcases hv with ⟨h1, h2, A, rfl⟩ | ⟨b, c, h1, rfl, hc1, hc2⟩
 ·obtain rfl : xs = [] := List.eq_nil_of_length_eq_zero (by omega)
  exact ⟨A, 0, rfl, Nat.le_refl _, .inl rfl⟩
 ·rcases ho.at_ with ⟨h2, _⟩ | ⟨b', cur, h2, h3, h4, h5, h6, h7⟩
  ·rw [h2] at h1; cases h1
  ·obtain rfl : b' = b := by rw [h2] at h1; exact Option.some.inj h1
   rw [hel] at h7
   refine ⟨some ⟨b', 0, none⟩, c, by rw [hn], by rw [hn]; exact hc1, .inr ⟨b', 0, rfl, hok b' h2, fun j y hj => ?_⟩⟩
   obtain ⟨us, h8, h9⟩ := h7.2 j y hj
   refine ⟨us, RepT_mono hle.ok (fun a ha => hle.cell a (.inl ha)) _ _ _ h8, fun i u hi => ?_⟩
   rw [cell_row h3, Nat.zero_add, h7.1]
   exact h9 i u hi
theorem RepA_cut {id : Id} {off len : Nat} {v : Value} : RepA C w (.cut id off len) v ↔ ∃ l, C.m id = some l ∧ off + len ≤ l.n ∧ ∃ A c, v = .slice A len c ∧ len ≤ c ∧ ((l.b = none ∧ len = 0 ∧ c = 0) ∨ ∃ b, l.b = some b ∧ off + c ≤ l.cap ∧ (0 < c → A = some ⟨b, off * l.g, none⟩)) := by rw [RepA]
theorem cut_row2 {o : Obj} {x : Loc} {id : Id} {off len : Nat} {ty : Ty} {xs : List ty.T} {v : Value} (ho : ObjAt C w o x) (hel : o.el = .data ty xs) (hx : C.m id = some x) (hv : RepA C w (.cut id off len) v) {C' : Ctx} (hle : Le C w C' w) {okr : Nat → Prop} (hok : ∀ b, x.b = some b → okr b) :
  RowT w okr C'.ok ty ((xs.drop off).take len) v := by
 obtain ⟨l, h1, h2, A, c, rfl, h3, h4⟩ := RepA_cut.1 hv
 obtain rfl : l = x := Option.some.inj (h1.symm.trans hx)
 have hn : xs.length = l.n := by rw [← ho.n]; unfold lenO; rw [hel]
 have hlen : ((xs.drop off).take len).length = len := by rw [List.length_take, List.length_drop]; omega
 refine ⟨A, c, by rw [hlen], by rw [hlen]; exact h3, ?_⟩
 by_cases h0 : len = 0
 ·exact .inl (List.eq_nil_of_length_eq_zero (by rw [hlen, h0]))
 ·rcases h4 with ⟨_, h5, _⟩ | ⟨b, h5, h7, h6⟩
  ·exact absurd h5 h0
  ·obtain rfl := h6 (by omega)
   rcases ho.at_ with ⟨h8, _⟩ | ⟨b', cur, h8, h9, h10, h11, h12, h13⟩
   ·rw [h8] at h5; cases h5
   ·obtain rfl : b' = b := by rw [h8] at h5; exact Option.some.inj h5
    rw [hel] at h13
    refine .inr ⟨b', off * l.g, rfl, hok b' h8, fun j y hj => ?_⟩
    rw [List.getElem?_take] at hj
    split at hj
    ·rw [List.getElem?_drop] at hj
     obtain ⟨us, h14, h15⟩ := h13.2 (off + j) y hj
     refine ⟨us, RepT_mono hle.ok (fun a ha => hle.cell a (.inl ha)) _ _ _ h14, fun i u hi => ?_⟩
     rw [cell_row h9, ← h15 i u hi, h13.1, Nat.add_mul, Nat.add_assoc]
    ·cases hj
theorem giveCell_ok (hs : HSim C (hget hp) w) {x y : AV} {l : List Id} {v : Value} (h : giveCell hp x = (y, l)) (hx : RepA C w x v) :
  (∀ id ∈ l, ∃ o, hget hp id = some o) ∧ ∀ l', (∀ id ∈ l, id ∈ l') → RepA (C.freeL l') w y v := by
 unfold giveCell at h
 split at h
 ·rename_i id
  split at h
  ·rename_i e g ty xs ho
   cases h
   refine ⟨fun i hi => by rw [List.mem_singleton.1 hi]; exact ⟨_, ho⟩, fun l' hl' => ?_⟩
   obtain ⟨x, h1, h2⟩ := RepA_ref.1 hx
   obtain ⟨x2, h3, h4⟩ := hs.obj id _ ho
   obtain rfl : x2 = x := Option.some.inj (h3.symm.trans h1)
   refine RepA_bv.2 (row_of_obj h4 rfl (le_freeL l') ?_ h2)
   intro b hb
   exact .inr ⟨id, hl' id List.mem_cons_self, x2, h1, hb⟩
  ·cases h
   exact ⟨fun i hi => (by cases hi), fun l' _ => RepA_mono (le_freeL l') _ _ hx⟩
 ·rename_i id off len
  split at h
  ·rename_i e g ty xs ho
   cases h
   refine ⟨fun i hi => by rw [List.mem_singleton.1 hi]; exact ⟨_, ho⟩, fun l' hl' => ?_⟩
   obtain ⟨x2, h3, h4⟩ := hs.obj id _ ho
   refine RepA_bv.2 (cut_row2 h4 rfl h3 hx (le_freeL l') ?_)
   intro b hb
   exact .inr ⟨id, hl' id List.mem_cons_self, x2, h3, hb⟩
  ·cases h
   exact ⟨fun i hi => (by cases hi), fun l' _ => RepA_mono (le_freeL l') _ _ hx⟩
 ·cases h
  exact ⟨fun i hi => (by cases hi), fun l' _ => RepA_mono (le_freeL l') _ _ hx⟩
theorem giveCells_ok (hs : HSim C (hget hp) w) : ∀ {xs ys : List AV} {l : List Id} {cs : List Value}, giveCells hp xs = (ys, l) → RepL C w xs cs →
  (∀ id ∈ l, ∃ o, hget hp id = some o) ∧ ∀ l', (∀ id ∈ l, id ∈ l') → RepL (C.freeL l') w ys cs
 | [], ys, l, cs, h, hx => by
  rw [giveCells] at h
  cases h
  exact ⟨fun i hi => (by cases hi), fun l' _ => RepL_nil.2 (RepL_nil.1 hx)⟩
 | x :: r, ys, l, cs, h, hx => by
  obtain ⟨u, q, rfl, h1, h2⟩ := RepL_cons.1 hx
  rw [giveCells] at h
  cases hg : giveCell hp x with
  | mk y a =>
   cases hgs : giveCells hp r with
   | mk ys2 b =>
    rw [hg, hgs] at h
    cases h
    obtain ⟨h3, h4⟩ := giveCell_ok hs hg h1
    obtain ⟨h5, h6⟩ := giveCells_ok hs hgs h2
    refine ⟨fun i hi => ?_, fun l' hl' => RepL_cons.2 ⟨u, q, rfl, h4 l' (fun i hi => hl' i (List.mem_append.2 (.inl hi))), h6 l' (fun i hi => hl' i (List.mem_append.2 (.inr hi)))⟩⟩
    rcases List.mem_append.1 hi with hi | hi
    ·exact h3 i hi
    ·exact h5 i hi
theorem give_ok (hs : HSim C (hget hp) w) {x y : AV} {l : List Id} {v : Value} (h : give hp x = (y, l)) (hx : RepA C w x v) :
  (∀ id ∈ l, ∃ o, hget hp id = some o) ∧ ∀ l', (∀ id ∈ l, id ∈ l') → RepA (C.freeL l') w y v := by
 unfold give at h
 split at h
 ·rename_i xs
  cases hg : giveCells hp xs with
  | mk ys l2 =>
   rw [hg] at h
   cases h
   obtain ⟨cs, rfl, h1, h2⟩ := RepA_agg.1 hx
   obtain ⟨h3, h4⟩ := giveCells_ok hs hg h1
   exact ⟨h3, fun l' hl' => by simpa using mkA_rep (h4 l' hl') h2⟩
 ·exact giveCell_ok hs h hx
theorem gives_ok (hs : HSim C (hget hp) w) : ∀ {ps : List (Nat × AV)} {ys : List AV} {l : List Id} {vs : List (Nat × Value)}, gives hp (ps.map (·.2)) = (ys, l) → PartsR C w ps vs →
  (∀ id ∈ l, ∃ o, hget hp id = some o) ∧ ∀ l', (∀ id ∈ l, id ∈ l') → PartsR (C.freeL l') w ((ps.map (·.1)).zip ys) vs
 | [], ys, l, vs, h, hx => by
  rw [List.map_nil, gives] at h
  cases h
  rw [PartsR] at hx
  subst hx
  exact ⟨fun i hi => (by cases hi), fun l' _ => by simp [PartsR]⟩
 | p :: r, ys, l, vs, h, hx => by
  rw [PartsR] at hx
  obtain ⟨v, s, rfl, h1, h2⟩ := hx
  rw [List.map_cons, gives] at h
  cases hg : give hp p.2 with
  | mk y a =>
   cases hgs : gives hp (r.map (·.2)) with
   | mk ys2 b =>
    rw [hg, hgs] at h
    cases h
    obtain ⟨h3, h4⟩ := give_ok hs hg h1
    obtain ⟨h5, h6⟩ := gives_ok hs hgs h2
    refine ⟨fun i hi => ?_, fun l' hl' => ?_⟩
    ·rcases List.mem_append.1 hi with hi | hi
     ·exact h3 i hi
     ·exact h5 i hi
    ·rw [List.map_cons, List.zip_cons_cons, PartsR]
     exact ⟨v, s, rfl, h4 l' (fun i hi => hl' i (List.mem_append.2 (.inl hi))), h6 l' (fun i hi => hl' i (List.mem_append.2 (.inr hi)))⟩
theorem RepL_tops : ∀ (n : Nat) (cs : List Value), cs.length = n → RepL C w (List.replicate n .top) cs
 | 0, cs, h => RepL_nil.2 (List.eq_nil_of_length_eq_zero h)
 | n + 1, [], h => by simp at h
 | n + 1, c :: r, h => by
  rw [List.replicate_succ]
  exact RepL_cons.2 ⟨c, r, rfl, RepA_top, RepL_tops n r (by simpa using h)⟩
theorem chunk_at {g n : Nat} {cs : List AV} {cur : Array Value} (h : RepL C w cs cur.toList) (h1 : OneCells cur.toList) (hsz : cur.size = n * g) : ElAt C w (.mix ((chunk g n cs).map one)) g cur := by
 intro j y hj
 rw [List.getElem?_map, chunk_get] at hj
 by_cases hjn : j < n
 ·rw [if_pos hjn] at hj
  cases hj
  have hjg : (j + 1) * g ≤ n * g := Nat.mul_le_mul_right _ hjn
  rw [Nat.succ_mul] at hjg
  refine ⟨(cur.toList.drop (j * g)).take g, one_rep (RepL_take _ (RepL_drop _ h)) ((h1.drop _).take _), ?_, (h1.drop _).take _, ?_⟩
  ·rw [List.length_take, List.length_drop, Array.length_toList]; omega
  ·intro k z hk
   rw [List.getElem?_take] at hk
   split at hk
   ·rw [List.getElem?_drop] at hk; simpa using hk
   ·cases hk
 ·rw [if_neg hjn] at hj; cases hj
theorem placed_len (place : Nat → Option (Nat × Nat)) : ∀ {parts : List (Nat × AV)} {xs ys : List AV}, placed xs parts place = some ys → ys.length = xs.length
 | [], xs, ys, h => by rw [placed] at h; cases h; rfl
 | (i, x) :: r, xs, ys, h => by
  rw [placed] at h
  split at h
  ·split at h
   ·rename_i hb
    simp only [Bool.and_eq_true, Nat.ble_eq] at hb
    have hn := Nat.eq_of_beq_eq_true hb.1.2
    rw [placed_len place h, setCells_len (by omega)]
   ·cases h
  ·cases h
theorem one_bang {cs : Array Value} (h : OneCells cs.toList) (k : Nat) : (cs[k]!).oneCell' = true := by
 by_cases hk : k < cs.size
 ·rw [getElem!_pos cs k hk]
  exact h _ (by simp)
 ·rw [getElem!_neg cs k hk]
  rfl
theorem run_lit {t e : TypeId} {n g : Nat} {z : Value} {parts : Array (Nat × Value)} {ps : List (Nat × AV)} {cs : List AV} (hu : P.underlying t = some (.slice e)) (hz : zeroV P e = some z) (hg : sizeOf? P e = some g) (hg0 : 0 < g) (hsm : n * g ≤ 16777216)
  (h : placed (List.replicate (n * g) .top) ps (fun i => some (i * g, g)) = some cs) (hps : PartsR C w ps parts.toList) :
  ∃ cur : Array Value, (Instr.buildSlice t n parts).run P w = .ok (.slice (some ⟨w.heap.size, 0, none⟩) n n) { w with heap := w.heap.push (.cells cur e) } ∧ cur.size = n * g ∧ RepL C w cs cur.toList ∧ OneCells cur.toList := by
 obtain ⟨i, hi, hz2⟩ := zeroV_info hz
 have hig : i.size = g := by unfold sizeOf? at hg; rw [hi] at hg; exact Option.some.inj hg
 have hone := (zeroV_ok (w := w) hz).2
 have hlen := placed_len _ h
 rw [List.length_replicate] at hlen
 by_cases hn : n = 0
 ·subst hn
  simp only [Nat.zero_mul, List.replicate_zero] at h
  obtain ⟨cells', h1, h2, h3⟩ := placed_ok (C := C) (w := w) (cells := #[]) _ h hps (RepL_nil.2 rfl) (fun u hu => by cases hu)
  refine ⟨cells', ?_, ?_, h2, h3⟩
  ·have e0 : ∀ f : Nat → Value, (Array.map f (Array.range (0 * g))) = #[] := fun f => by rw [Nat.zero_mul]; simp
   simp only [Instr.buildSlice, Sem.run_bind, run_underlying hu, Result.andThen_ok, run_sizeOf hg]
   rw [if_neg (by omega), if_pos (Nat.zero_mul g)]
   simp only [Sem.run_bind, Sem.run_pure, Result.andThen_ok, e0, h1, newRow, run_newObj]
  ·have := RepL_len h2; rw [Array.length_toList] at this; rw [this, hlen]
 ·have hpos : ¬ n * i.size = 0 := by
   rw [hig]
   exact Nat.ne_of_gt (Nat.mul_pos (by omega) hg0)
  have hsize : ((Array.range (n * i.size)).map (z.cells[· % z.cells.size]!)).size = n * g := by simp [hig]
  have hin : OneCells ((Array.range (n * i.size)).map (z.cells[· % z.cells.size]!)).toList := by
   intro u hu
   simp only [Array.toList_map, List.mem_map] at hu
   obtain ⟨k, _, rfl⟩ := hu
   exact one_bang hone _
  obtain ⟨cells', h1, h2, h3⟩ := placed_ok (C := C) (w := w) (cells := (Array.range (n * i.size)).map (z.cells[· % z.cells.size]!)) _ h hps (RepL_tops _ _ (by rw [Array.length_toList]; exact hsize)) hin
  refine ⟨cells', ?_, ?_, h2, h3⟩
  ·have := run_buildSlice (P := P) w t e n parts cells' i z hu hi hz2 (by rw [hig]; omega) hpos (by rw [← h1, hig])
   simpa using this
  ·have := RepL_len h2; rw [Array.length_toList] at this; rw [this, hlen]
end
end AX
namespace AX
section
variable {P : Program} {C : Ctx} {w : World} {hp : Heap} {me : Id}
def cellsAt (w : World) (b o m : Nat) : List Value := (List.range m).map fun k => (w.cell? ⟨b, o + k, none⟩).getD undef
theorem cellsAt_get {b o m k : Nat} {u : Value} (hk : k < m) (h : w.cell? ⟨b, o + k, none⟩ = some u) : (cellsAt w b o m)[k]? = some u := by
 simp [cellsAt, List.getElem?_range hk, h]
theorem cellsAt_inv {b o m k : Nat} {u : Value} (h : (cellsAt w b o m)[k]? = some u) (hex : ∀ k, k < m → ∃ v, w.cell? ⟨b, o + k, none⟩ = some v) : w.cell? ⟨b, o + k, none⟩ = some u := by
 have hk : k < m := by have := (List.getElem?_eq_some_iff.1 h).1; simpa [cellsAt] using this
 obtain ⟨v, hv⟩ := hex k hk
 have := cellsAt_get (u := v) hk hv
 rw [this] at h
 cases h
 exact hv
theorem addr_add (b o j : Nat) : (⟨b, o, none⟩ : Addr).add j = ⟨b, o + j, none⟩ := by unfold Addr.add; split <;> simp_all
theorem RowT.src {okr : Nat → Prop} {ty : Ty} {xs : List ty.T} {v : Value} (h : RowT w okr C.ok ty xs v) {tx e' : TypeId} (hk : P.underlying tx = some (.slice e')) {g : Nat} (hg : ty.sz = g) (hg0 : 0 < g) :
  ∃ news, Src P g tx v xs.length news w ∧ ElAt C w (.data ty xs) g news.toArray := by
 obtain ⟨A, c, rfl, hle, h3⟩ := h
 by_cases hx : xs = []
 ·subst hx
  refine ⟨[], ?_, hg, fun j x hj => by simp at hj⟩
  cases A with
  | none => exact Src.ofNil w hk c
  | some a => exact Src.ofSlice w hk a 0 c [] (by simp) (fun j u hj => by simp at hj) (fun u hu => by cases hu)
 ·rcases h3 with h3 | ⟨b, o, rfl, _, h4⟩
  ·exact absurd h3 hx
  ·have cell : ∀ j, j < xs.length → ∃ us, us.length = g ∧ OneCells us ∧ RepT w C.ok ty (xs.getD j (zeroT ty)) us ∧ ∀ (i : Nat) (u : Value), us[i]? = some u → w.cell? ⟨b, o + (j * g + i), none⟩ = some u := by
    intro j hj
    have hget : xs[j]? = some (xs.getD j (zeroT ty)) := by rw [List.getD_eq_getElem?_getD, List.getElem?_eq_getElem hj]; rfl
    obtain ⟨us, h5, h6⟩ := h4 j _ hget
    exact ⟨us, (RepT_len _ _ _ h5).trans hg, RepT_one _ _ _ h5, h5, fun i u hi => by rw [← hg]; exact h6 i u hi⟩
   have split : ∀ k, k < xs.length * g → ∃ j i, j < xs.length ∧ i < g ∧ k = j * g + i := by
    intro k hk
    refine ⟨k / g, k % g, (Nat.div_lt_iff_lt_mul hg0).2 hk, Nat.mod_lt _ hg0, ?_⟩
    have := Nat.div_add_mod k g
    rw [Nat.mul_comm] at this
    exact this.symm
   have hex : ∀ k, k < xs.length * g → ∃ u, w.cell? ⟨b, o + k, none⟩ = some u ∧ u.oneCell' = true := by
    intro k hk
    obtain ⟨j, i, hj, hi, rfl⟩ := split k hk
    obtain ⟨us, h5, h6, _, h8⟩ := cell j hj
    have hu : us[i]? = some (us[i]'(by omega)) := List.getElem?_eq_getElem _
    exact ⟨_, h8 i _ hu, h6 _ (List.getElem_mem _)⟩
   refine ⟨cellsAt w b o (xs.length * g), ?_, hg, ?_⟩
   ·refine Src.ofSlice w hk ⟨b, o, none⟩ xs.length c _ (by simp [cellsAt]) (fun j u hj => ?_) (fun u hu => ?_)
    ·rw [addr_add]
     exact cellsAt_inv hj (fun k hk => let ⟨v, hv, _⟩ := hex k hk; ⟨v, hv⟩)
    ·simp only [cellsAt, List.mem_map, List.mem_range] at hu
     obtain ⟨k, hk, rfl⟩ := hu
     obtain ⟨v, hv, h1⟩ := hex k hk
     rw [hv]
     exact h1
   ·intro j x hj
    have hjl := (List.getElem?_eq_some_iff.1 hj).1
    obtain ⟨us, h5, h6⟩ := h4 j x hj
    refine ⟨us, h5, fun i u hi => ?_⟩
    have hil : i < g := by have := (List.getElem?_eq_some_iff.1 hi).1; rw [RepT_len _ _ _ h5, hg] at this; exact this
    rw [List.getElem?_toArray]
    refine cellsAt_get ?_ (by rw [← hg]; exact h6 i u hi)
    have : (j + 1) * g ≤ xs.length * g := Nat.mul_le_mul_right _ hjl
    rw [Nat.succ_mul] at this
    omega
theorem cut_row {o : Obj} {x : Loc} {id : Id} {off len : Nat} {ty : Ty} {xs : List ty.T} {v : Value} (ho : ObjAt C w o x) (hel : o.el = .data ty xs) (hx : C.m id = some x) (hv : RepA C w (.cut id off len) v) :
  RowT w (fun b => x.b = some b) C.ok ty ((xs.drop off).take len) v := by
 obtain ⟨l, h1, h2, A, c, rfl, h3, h4⟩ := RepA_cut.1 hv
 obtain rfl : l = x := Option.some.inj (h1.symm.trans hx)
 have hn : xs.length = l.n := by rw [← ho.n]; unfold lenO; rw [hel]
 have hlen : ((xs.drop off).take len).length = len := by rw [List.length_take, List.length_drop]; omega
 refine ⟨A, c, by rw [hlen], by rw [hlen]; exact h3, ?_⟩
 by_cases h0 : len = 0
 ·exact .inl (List.eq_nil_of_length_eq_zero (by rw [hlen, h0]))
 ·rcases h4 with ⟨_, h5, _⟩ | ⟨b, h5, h7, h6⟩
  ·exact absurd h5 h0
  ·obtain rfl := h6 (by omega)
   rcases ho.at_ with ⟨h8, _⟩ | ⟨b', cur, h8, h9, h10, h11, h12, h13⟩
   ·rw [h8] at h5; cases h5
   ·obtain rfl : b' = b := by rw [h8] at h5; exact Option.some.inj h5
    rw [hel] at h13
    refine .inr ⟨b', off * l.g, rfl, h8, fun j y hj => ?_⟩
    rw [List.getElem?_take] at hj
    split at hj
    ·rw [List.getElem?_drop] at hj
     obtain ⟨us, h14, h15⟩ := h13.2 (off + j) y hj
     refine ⟨us, h14, fun i u hi => ?_⟩
     rw [cell_row h9, ← h15 i u hi, h13.1, Nat.add_mul, Nat.add_assoc]
    ·cases hj
theorem rowTo_src (hs : HSim C (hget hp) w) {ty : Ty} {x : AV} {ys : List ty.T} {v : Value} (h : rowTo hp ty x = some ys) (hx : RepA C w x v) {tx : TypeId} {g : Nat} (hg : ty.sz = g) (hg0 : 0 < g)
  (hk : (∃ e', P.underlying tx = some (.slice e') ∧ (∀ s, v ≠ .string s)) ∨ (P.underlying tx = some .string ∧ ∃ s, v = .string s)) : ∃ news, Src P g tx v ys.length news w ∧ ElAt C w (.data ty ys) g news.toArray := by
 have sl : ∀ {okr : Nat → Prop}, RowT w okr C.ok ty ys v → ∃ news, Src P g tx v ys.length news w ∧ ElAt C w (.data ty ys) g news.toArray := by
  intro okr hr
  rcases hk with ⟨e', hk, _⟩ | ⟨_, s, rfl⟩
  ·exact hr.src hk hg hg0
  ·obtain ⟨A, c, h1, _⟩ := hr; cases h1
 unfold rowTo at h
 split at h
 ·cases h; rw [RepA_nils] at hx; subst hx; exact sl (okr := fun _ => False) ⟨none, 0, rfl, Nat.le_refl _, .inl rfl⟩
 ·exact sl (RowT_cast h (RepA_sl.1 hx))
 ·exact sl (RowT_cast h (RepA_bv.1 hx))
 ·rename_i s
  obtain rfl := RepA_str.1 hx
  rcases hk with ⟨e', _, hk⟩ | ⟨hk, _⟩
  ·exact absurd rfl (hk _)
  ·have he := castL_eq h
   subst he
   have hys : ys = bytesI (s_ s) := castL_self h
   have hg1 : g = 1 := hg.symm
   subst hg1
   have hl : ys.length = (s_ s).size := by rw [hys]; exact (List.length_map _).trans rfl
   refine ⟨byteCells (s_ s), by rw [hl]; exact Src.ofString w hk (s_ s), rfl, fun j n hj => ?_⟩
   rw [hys] at hj
   obtain ⟨c, hc, hn⟩ := Option.map_eq_some_iff.1 ((List.getElem?_map ..).symm.trans hj)
   refine ⟨[.int .u8 (i_ n)], by rw [RepT], fun i u hi => ?_⟩
   cases i with
   | zero =>
    have hi' : Value.int .u8 (i_ n) = u := by simpa using hi
    have hn' : i_ n = (c.toNat : Int) := hn.symm
    rw [← hi', hn']
    simp [byteCells, hc]
   | succ i => simp at hi
 ·rename_i id
  split at h
  ·rename_i e g2 u xs ho
   obtain ⟨x, h1, h2⟩ := RepA_ref.1 hx
   obtain ⟨x2, h3, h4⟩ := hs.obj id _ ho
   obtain rfl : x2 = x := Option.some.inj (h3.symm.trans h1)
   exact sl (RowT_cast h (row_of_obj (okr := fun b => x2.b = some b) h4 rfl (Ext.le hs (Ext.refl C _ w)) (fun b hb => hb) h2))
  ·cases h
 ·rename_i id off len
  split at h
  ·rename_i e g2 u xs ho
   obtain ⟨l, h1, _⟩ := RepA_cut.1 hx
   obtain ⟨x2, h3, h4⟩ := hs.obj id _ ho
   exact sl (RowT_cast h (cut_row h4 rfl h3 hx))
  ·cases h
 ·cases h
end
end AX
end Go
